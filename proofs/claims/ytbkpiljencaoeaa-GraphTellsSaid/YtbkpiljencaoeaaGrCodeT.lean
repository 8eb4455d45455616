/- Printed by program: the small code of functions, and that it is theirs. -/
import Derived.Test.YtbkpiljencaoeaaSxStill
import Derived.Test.YtbkpiljencaoeaaProg
import Derived.KernelRfl
set_option linter.unusedSimpArgs false
set_option linter.unusedVariables false
set_option linter.unnecessarySimpa false
namespace Go.Proofs.Ytbkpiljencaoeaa
open Go Go.Sx
set_option maxRecDepth 100000
def T31n0 : XC := .seq (.ops [.mk (some 13) none (.k (.mov (.tmp 5))), .mk (some 2) none (.k (.mov (.const (.slice none 0 0)))), .mk (some 3) none (.k (.mov (.tmp 13)))]) .ret
def T31n1 : XC := .seq (.ops [.mk (some 2) none (.k (.mov (.const (.slice none 0 0)))), .mk (some 3) none (.k (.mov (.const (.int .i64 120))))]) .ret
def T31n2 : XC := .seq (.ops [.mk (some 19) none (.k (.mov (.tmp 4))), .mk (some 2) none (.k (.mov (.tmp 19))), .mk (some 3) none (.k (.mov (.const (.int .i64 0))))]) .ret
def T31n3 : XC := .seq (.seq (.ops [.mk (some 16) none (.k (.mov (.tmp 4))), .mk (some 17) none (.k (.lenS (.tmp 16))), .mk (some 18) none (.k (.cmp .gtr .i64 (.tmp 17) (.const (.int .i64 500))))]) (.cond (.tmp 18) (.ref 1) .skip)) (.ref 2)
def T31n4 : XC := .seq (.ops [.mk (some 14) none (.k (.mov (.tmp 4))), .mk (some 15) none (.call 50 [.tmp 14, .func 51]), .mk (some 4) none (.k (.mov (.tmp 15)))]) (.ref 3)
def T31n5 : XC := .seq (.seq (.ops [.mk (some 11) none (.k (.mov (.tmp 5))), .mk (some 12) none (.k (.cmp .neq .i64 (.tmp 11) (.const (.int .i64 0))))]) (.cond (.tmp 12) (.ref 0) .skip)) (.ref 4)
def T31n6 : XC := .seq (.ops [.mk (some 7) none (.k (.mov (.tmp 0))), .mk (some 8) none (.call 49 [.tmp 7]), .mk (some 6) none (.k (.mov (.tmp 8))), .mk (some 9) none (.k (.ext (.tmp 6) 0)), .mk (some 10) none (.k (.ext (.tmp 6) 1)), .mk (some 4) none (.k (.mov (.tmp 9))), .mk (some 5) none (.k (.mov (.tmp 10)))]) (.ref 5)
def T31 : Nat → XC
 | 0 => T31n0
 | 1 => T31n1
 | 2 => T31n2
 | 3 => T31n3
 | 4 => T31n4
 | 5 => T31n5
 | 6 => T31n6
 | _ => .skip
theorem t31n0 : T31 0 = T31n0 := rfl
theorem t31n1 : T31 1 = T31n1 := rfl
theorem t31n2 : T31 2 = T31n2 := rfl
theorem t31n3 : T31 3 = T31n3 := rfl
theorem t31n4 : T31 4 = T31n4 := rfl
theorem t31n5 : T31 5 = T31n5 := rfl
theorem t31n6 : T31 6 = T31n6 := rfl
def X31 : XC := .seq (.ops [.mk (some 2) none (.k (.mov (.const (.slice none 0 0)))), .mk (some 3) none (.k (.mov (.const (.int .i64 0))))]) (.ref 6)
abbrev K31 : List Nat := [0, 2, 3, 4, 5, 12, 18]
theorem n31 : Try.f31.ntmps = 20 := by kernel_rfl
theorem r31 : resT Try.f31.results.toList = some [2, 3] := by kernel_rfl
theorem x31 : cmpF Try.prog Try.f31 = some (expand T31 8 X31) := by kernel_rfl
def T50n0 : XC := .seq (.ops [.mk (some 13) none (.k (.mov (.tmp 0))), .mk (some 4) none (.k (.mov (.tmp 13)))]) .ret
def T50n1 : XC := .ops [.mk (some 34) none (.k (.mov (.tmp 5))), .mk (some 35) none (.k (.arith .add .i64 (.tmp 34) (.const (.int .i64 1)))), .mk (some 5) none (.k (.mov (.tmp 35)))]
def T50n2 : XC := .seq (.ops [.mk (some 30) none (.k (.mov (.tmp 0))), .mk (some 31) none (.k (.mov (.tmp 5))), .mk (some 32) none (.k (.load [.int .i64, .int .i64, .int .i64, .int .i64, .int .i64, .int .i64, .int .i64, .slc, .slc, .bool, .int .i64] true (.tmp 7))), .mk (some 33) none (.k (.idx 11 (.tmp 30) (.tmp 31))), .mk none none (.k (.store 11 (.tmp 33) (.tmp 32)))]) (.ref 1)
def T50n3 : XC := .seq (.ops [.mk (some 26) none (.k (.mov (.tmp 1))), .mk (some 27) none (.k (.load [.int .i64, .int .i64, .int .i64, .int .i64, .int .i64, .int .i64, .int .i64, .slc, .slc, .bool, .int .i64] true (.tmp 7))), .mk (some 28) none (.callv (.tmp 26) [.tmp 27]), .mk (some 29) none (.k (.not (.tmp 28)))]) (.cond (.tmp 29) (.ref 2) .skip)
def T50n4 : XC := .ops [.mk (some 20) none (.k (.mov (.tmp 6))), .mk (some 21) none (.k (.arith .add .i64 (.tmp 20) (.const (.int .i64 1)))), .mk (some 6) none (.k (.mov (.tmp 21)))]
def T50n5 : XC := .seq (.blk 1 (.seq (.ops [.mk (some 22) none (.k (.mov (.tmp 0))), .mk (some 23) none (.k (.mov (.tmp 6))), .mk (some 24) none (.k (.idx 11 (.tmp 22) (.tmp 23))), .mk (some 25) none (.k (.load [.int .i64, .int .i64, .int .i64, .int .i64, .int .i64, .int .i64, .int .i64, .slc, .slc, .bool, .int .i64] true (.tmp 24))), .mk (some 7) none (.k (.alloc 75 [.int .i64 0, .int .i64 0, .int .i64 0, .int .i64 0, .int .i64 0, .int .i64 0, .int .i64 0, .slice none 0 0, .slice none 0 0, .bool false, .int .i64 0])), .mk none none (.k (.store 11 (.tmp 7) (.tmp 25)))]) (.ref 3))) (.ref 4)
def T50n6 : XC := .seq (.seq (.ops [.mk (some 16) none (.k (.mov (.tmp 6))), .mk (some 17) none (.k (.mov (.tmp 0))), .mk (some 18) none (.k (.lenS (.tmp 17))), .mk (some 19) none (.k (.cmp .lss .i64 (.tmp 16) (.tmp 18)))]) (.cond (.tmp 19) .skip (.exit 0))) (.ref 5)
def T50n7 : XC := .seq (.ops [.mk (some 39) none (.k (.mov (.tmp 0))), .mk (some 40) none (.k (.mov (.tmp 5))), .mk (some 41) none (.k (.sub 11 (.tmp 39) none (some (.tmp 40)))), .mk (some 4) none (.k (.mov (.tmp 41)))]) .ret
def T50n8 : XC := .seq (.ops [.mk (some 36) none (.k (.mov (.tmp 0))), .mk (some 37) none (.k (.mov (.tmp 5))), .mk (some 38) none (.k (.sub 11 (.tmp 36) (some (.tmp 37)) none)), .mk none none (.k (.clr 11 [.int .i64 0, .int .i64 0, .int .i64 0, .int .i64 0, .int .i64 0, .int .i64 0, .int .i64 0, .slice none 0 0, .slice none 0 0, .bool false, .int .i64 0] (.tmp 38)))]) (.ref 7)
def T50n9 : XC := .seq (.seq (.ops [.mk (some 14) none (.k (.mov (.tmp 5))), .mk (some 15) none (.k (.arith .add .i64 (.tmp 14) (.const (.int .i64 1)))), .mk (some 6) none (.k (.mov (.tmp 15)))]) (.blk 0 (.loop (.ref 6)))) (.ref 8)
def T50n10 : XC := .seq (.seq (.ops [.mk (some 11) none (.k (.mov (.tmp 5))), .mk (some 12) none (.k (.cmp .eql .i64 (.tmp 11) (.const (.int .i64 (-1)))))]) (.cond (.tmp 12) (.ref 0) .skip)) (.ref 9)
def T50n11 : XC := .seq (.ops [.mk (some 8) none (.k (.mov (.tmp 0))), .mk (some 9) none (.k (.mov (.tmp 1))), .mk (some 10) none (.call 68 [.tmp 8, .tmp 9]), .mk (some 5) none (.k (.mov (.tmp 10)))]) (.ref 10)
def T50 : Nat → XC
 | 0 => T50n0
 | 1 => T50n1
 | 2 => T50n2
 | 3 => T50n3
 | 4 => T50n4
 | 5 => T50n5
 | 6 => T50n6
 | 7 => T50n7
 | 8 => T50n8
 | 9 => T50n9
 | 10 => T50n10
 | 11 => T50n11
 | _ => .skip
theorem t50n0 : T50 0 = T50n0 := rfl
theorem t50n1 : T50 1 = T50n1 := rfl
theorem t50n2 : T50 2 = T50n2 := rfl
theorem t50n3 : T50 3 = T50n3 := rfl
theorem t50n4 : T50 4 = T50n4 := rfl
theorem t50n5 : T50 5 = T50n5 := rfl
theorem t50n6 : T50 6 = T50n6 := rfl
theorem t50n7 : T50 7 = T50n7 := rfl
theorem t50n8 : T50 8 = T50n8 := rfl
theorem t50n9 : T50 9 = T50n9 := rfl
theorem t50n10 : T50 10 = T50n10 := rfl
theorem t50n11 : T50 11 = T50n11 := rfl
def X50 : XC := .seq (.ops [.mk (some 4) none (.k (.mov (.const (.slice none 0 0))))]) (.ref 11)
abbrev K50 : List Nat := [0, 1, 4, 5, 6, 7, 12, 19, 29]
theorem n50 : Try.f50.ntmps = 42 := by kernel_rfl
theorem r50 : resT Try.f50.results.toList = some [4] := by kernel_rfl
theorem x50 : cmpF Try.prog Try.f50 = some (expand T50 13 X50) := by kernel_rfl
def T51n0 : XC := .seq (.ops [.mk (some 3) none (.k (.fld 9 (.tmp 1))), .mk (some 4) none (.k (.load [.bool] false (.tmp 3))), .mk (some 5) none (.k (.not (.tmp 4))), .mk (some 6) none (.k (.mov (.tmp 5))), .mk (some 7) (some (6, false)) (.k (.fld 5 (.tmp 1))), .mk (some 8) (some (6, false)) (.k (.load [.int .i64] false (.tmp 7))), .mk (some 9) (some (6, false)) (.k (.cmp .lss .i64 (.tmp 8) (.const (.int .i64 0)))), .mk (some 10) none (.k (.pick (.tmp 6) (.const (.bool true)) (.tmp 9))), .mk (some 2) none (.k (.mov (.tmp 10)))]) .ret
def T51 : Nat → XC
 | 0 => T51n0
 | _ => .skip
theorem t51n0 : T51 0 = T51n0 := rfl
def X51 : XC := .seq (.ops [.mk (some 1) none (.k (.box 75 11 (.tmp 0))), .mk (some 2) none (.k (.mov (.const (.bool false))))]) (.ref 0)
abbrev K51 : List Nat := [0, 1, 2]
theorem n51 : Try.f51.ntmps = 11 := by kernel_rfl
theorem r51 : resT Try.f51.results.toList = some [2] := by kernel_rfl
theorem x51 : cmpF Try.prog Try.f51 = some (expand T51 2 X51) := by kernel_rfl
def T68n0 : XC := .seq (.ops [.mk (some 17) none (.k (.mov (.tmp 5))), .mk (some 4) none (.k (.mov (.tmp 17)))]) .ret
def T68n1 : XC := .seq (.ops [.mk (some 11) none (.k (.mov (.tmp 1))), .mk (some 12) none (.k (.mov (.tmp 0))), .mk (some 13) none (.k (.mov (.tmp 5))), .mk (some 14) none (.k (.idx 11 (.tmp 12) (.tmp 13))), .mk (some 15) none (.k (.load [.int .i64, .int .i64, .int .i64, .int .i64, .int .i64, .int .i64, .int .i64, .slc, .slc, .bool, .int .i64] true (.tmp 14))), .mk (some 16) none (.callv (.tmp 11) [.tmp 15])]) (.cond (.tmp 16) (.ref 0) .skip)
def T68n2 : XC := .seq (.blk 1 (.seq (.ops [.mk (some 10) none (.k (.mov (.tmp 8))), .mk (some 5) none (.k (.mov (.tmp 10)))]) (.ref 1))) (.ops [.mk (some 18) none (.k (.arith .add .i64 (.tmp 8) (.const (.int .i64 1)))), .mk (some 8) none (.k (.mov (.tmp 18)))])
def T68n3 : XC := .seq (.cond (.tmp 9) .skip (.exit 0)) (.ref 2)
def T68n4 : XC := .seq (.ops [.mk (some 9) none (.k (.cmp .lss .i64 (.tmp 8) (.tmp 7)))]) (.ref 3)
def T68n5 : XC := .seq (.ops [.mk (some 4) none (.k (.mov (.const (.int .i64 (-1)))))]) .ret
def T68n6 : XC := .seq (.seq (.ops [.mk (some 6) none (.k (.mov (.tmp 0))), .mk (some 7) none (.k (.lenS (.tmp 6))), .mk (some 8) none (.k (.mov (.const (.int .i64 0))))]) (.blk 0 (.loop (.ref 4)))) (.ref 5)
def T68 : Nat → XC
 | 0 => T68n0
 | 1 => T68n1
 | 2 => T68n2
 | 3 => T68n3
 | 4 => T68n4
 | 5 => T68n5
 | 6 => T68n6
 | _ => .skip
theorem t68n0 : T68 0 = T68n0 := rfl
theorem t68n1 : T68 1 = T68n1 := rfl
theorem t68n2 : T68 2 = T68n2 := rfl
theorem t68n3 : T68 3 = T68n3 := rfl
theorem t68n4 : T68 4 = T68n4 := rfl
theorem t68n5 : T68 5 = T68n5 := rfl
theorem t68n6 : T68 6 = T68n6 := rfl
def X68 : XC := .seq (.ops [.mk (some 4) none (.k (.mov (.const (.int .i64 0))))]) (.ref 6)
abbrev K68 : List Nat := [0, 1, 4, 5, 7, 8, 9, 16]
theorem n68 : Try.f68.ntmps = 19 := by kernel_rfl
theorem r68 : resT Try.f68.results.toList = some [4] := by kernel_rfl
theorem x68 : cmpF Try.prog Try.f68 = some (expand T68 8 X68) := by kernel_rfl
def T32n0 : XC := .seq (.ops [.mk (some 4) none (.k (.mov (.const (.bool true))))]) .ret
def T32n1 : XC := .seq (.ops [.mk (some 14) none (.k (.fld 7 (.tmp 3))), .mk (some 15) none (.k (.load [.slc] false (.tmp 14))), .mk (some 16) none (.k (.fld 0 (.tmp 6))), .mk (some 17) none (.k (.load [.int .i64] false (.tmp 16))), .mk (some 18) none (.call 52 [.tmp 15, .tmp 17]), .mk (some 19) none (.k (.mov (.tmp 18))), .mk (some 20) (some (19, false)) (.k (.fld 8 (.tmp 3))), .mk (some 21) (some (19, false)) (.k (.load [.slc] false (.tmp 20))), .mk (some 22) (some (19, false)) (.k (.fld 0 (.tmp 6))), .mk (some 23) (some (19, false)) (.k (.load [.int .i64] false (.tmp 22))), .mk (some 24) (some (19, false)) (.call 52 [.tmp 21, .tmp 23]), .mk (some 25) none (.k (.pick (.tmp 19) (.const (.bool true)) (.tmp 24)))]) (.cond (.tmp 25) (.ref 0) .skip)
def T32n2 : XC := .seq (.blk 1 (.seq (.ops [.mk (some 12) none (.k (.idx 2 (.tmp 8) (.tmp 10))), .mk (some 13) none (.k (.load [.int .i64, .int .u64] true (.tmp 12))), .mk (some 6) none (.k (.alloc 85 [.int .i64 0, .int .u64 0])), .mk none none (.k (.store 2 (.tmp 6) (.tmp 13)))]) (.ref 1))) (.ops [.mk (some 26) none (.k (.arith .add .i64 (.tmp 10) (.const (.int .i64 1)))), .mk (some 10) none (.k (.mov (.tmp 26)))])
def T32n3 : XC := .seq (.cond (.tmp 11) .skip (.exit 0)) (.ref 2)
def T32n4 : XC := .seq (.ops [.mk (some 11) none (.k (.cmp .lss .i64 (.tmp 10) (.tmp 9)))]) (.ref 3)
def T32n5 : XC := .seq (.ops [.mk (some 27) none (.k (.fld 8 (.tmp 3))), .mk (some 28) none (.k (.load [.slc] false (.tmp 27))), .mk (some 29) none (.k (.mkfn (.func 54) [] [.tmp 2])), .mk (some 30) none (.call 53 [.tmp 28, .tmp 29]), .mk (some 4) none (.k (.mov (.tmp 30)))]) .ret
def T32n6 : XC := .seq (.seq (.ops [.mk (some 7) none (.k (.fld 8 (.tmp 2))), .mk (some 8) none (.k (.load [.slc] false (.tmp 7))), .mk (some 9) none (.k (.lenS (.tmp 8))), .mk (some 10) none (.k (.mov (.const (.int .i64 0))))]) (.blk 0 (.loop (.ref 4)))) (.ref 5)
def T32 : Nat → XC
 | 0 => T32n0
 | 1 => T32n1
 | 2 => T32n2
 | 3 => T32n3
 | 4 => T32n4
 | 5 => T32n5
 | 6 => T32n6
 | _ => .skip
theorem t32n0 : T32 0 = T32n0 := rfl
theorem t32n1 : T32 1 = T32n1 := rfl
theorem t32n2 : T32 2 = T32n2 := rfl
theorem t32n3 : T32 3 = T32n3 := rfl
theorem t32n4 : T32 4 = T32n4 := rfl
theorem t32n5 : T32 5 = T32n5 := rfl
theorem t32n6 : T32 6 = T32n6 := rfl
def X32 : XC := .seq (.ops [.mk (some 2) none (.k (.box 75 11 (.tmp 0))), .mk (some 3) none (.k (.box 75 11 (.tmp 1))), .mk (some 4) none (.k (.mov (.const (.bool false))))]) (.ref 6)
abbrev K32 : List Nat := [0, 1, 2, 3, 4, 6, 8, 9, 10, 11, 25]
theorem n32 : Try.f32.ntmps = 31 := by kernel_rfl
theorem r32 : resT Try.f32.results.toList = some [4] := by kernel_rfl
theorem x32 : cmpF Try.prog Try.f32 = some (expand T32 8 X32) := by kernel_rfl
def T52n0 : XC := .seq (.ops [.mk (some 5) none (.k (.mov (.tmp 0))), .mk (some 6) none (.k (.mkfn (.func 69) [] [.tmp 3])), .mk (some 7) none (.call 53 [.tmp 5, .tmp 6]), .mk (some 4) none (.k (.mov (.tmp 7)))]) .ret
def T52 : Nat → XC
 | 0 => T52n0
 | _ => .skip
theorem t52n0 : T52 0 = T52n0 := rfl
def X52 : XC := .seq (.ops [.mk (some 3) none (.k (.box 3 1 (.tmp 1))), .mk (some 4) none (.k (.mov (.const (.bool false))))]) (.ref 0)
abbrev K52 : List Nat := [0, 1, 3, 4]
theorem n52 : Try.f52.ntmps = 8 := by kernel_rfl
theorem r52 : resT Try.f52.results.toList = some [4] := by kernel_rfl
theorem x52 : cmpF Try.prog Try.f52 = some (expand T52 2 X52) := by kernel_rfl
def T53n0 : XC := .seq (.ops [.mk (some 5) none (.k (.mov (.tmp 0))), .mk (some 6) none (.k (.mov (.tmp 1))), .mk (some 7) none (.call 70 [.tmp 5, .tmp 6]), .mk (some 8) none (.k (.cmp .geq .i64 (.tmp 7) (.const (.int .i64 0)))), .mk (some 4) none (.k (.mov (.tmp 8)))]) .ret
def T53 : Nat → XC
 | 0 => T53n0
 | _ => .skip
theorem t53n0 : T53 0 = T53n0 := rfl
def X53 : XC := .seq (.ops [.mk (some 4) none (.k (.mov (.const (.bool false))))]) (.ref 0)
abbrev K53 : List Nat := [0, 1, 4]
theorem n53 : Try.f53.ntmps = 9 := by kernel_rfl
theorem r53 : resT Try.f53.results.toList = some [4] := by kernel_rfl
theorem x53 : cmpF Try.prog Try.f53 = some (expand T53 2 X53) := by kernel_rfl
def T54n0 : XC := .seq (.ops [.mk (some 4) none (.k (.fld 7 (.tmp 1))), .mk (some 5) none (.k (.load [.slc] false (.tmp 4))), .mk (some 6) none (.k (.fld 0 (.tmp 2))), .mk (some 7) none (.k (.load [.int .i64] false (.tmp 6))), .mk (some 8) none (.call 52 [.tmp 5, .tmp 7]), .mk (some 3) none (.k (.mov (.tmp 8)))]) .ret
def T54 : Nat → XC
 | 0 => T54n0
 | _ => .skip
theorem t54n0 : T54 0 = T54n0 := rfl
def X54 : XC := .seq (.ops [.mk (some 2) none (.k (.box 85 2 (.tmp 0))), .mk (some 3) none (.k (.mov (.const (.bool false))))]) (.ref 0)
abbrev K54 : List Nat := [0, 1, 2, 3]
theorem n54 : Try.f54.ntmps = 9 := by kernel_rfl
theorem r54 : resT Try.f54.results.toList = some [3] := by kernel_rfl
theorem x54 : cmpF Try.prog Try.f54 = some (expand T54 2 X54) := by kernel_rfl
def T69n0 : XC := .seq (.ops [.mk (some 4) none (.k (.fld 0 (.tmp 2))), .mk (some 5) none (.k (.load [.int .i64] false (.tmp 4))), .mk (some 6) none (.k (.load [.int .i64] false (.tmp 1))), .mk (some 7) none (.k (.cmp .eql .i64 (.tmp 5) (.tmp 6))), .mk (some 3) none (.k (.mov (.tmp 7)))]) .ret
def T69 : Nat → XC
 | 0 => T69n0
 | _ => .skip
theorem t69n0 : T69 0 = T69n0 := rfl
def X69 : XC := .seq (.ops [.mk (some 2) none (.k (.box 85 2 (.tmp 0))), .mk (some 3) none (.k (.mov (.const (.bool false))))]) (.ref 0)
abbrev K69 : List Nat := [0, 1, 2, 3]
theorem n69 : Try.f69.ntmps = 8 := by kernel_rfl
theorem r69 : resT Try.f69.results.toList = some [3] := by kernel_rfl
theorem x69 : cmpF Try.prog Try.f69 = some (expand T69 2 X69) := by kernel_rfl
def T18n0 : XC := .seq (.ops [.mk (some 19) none (.k (.mov (.tmp 6))), .mk (some 2) none (.k (.mov (.const (.int .i64 0)))), .mk (some 3) none (.k (.mov (.const (.slice none 0 0)))), .mk (some 4) none (.k (.mov (.tmp 19)))]) .ret
def T18n1 : XC := .ops [.mk (some 70) none (.k (.mov (.tmp 7))), .mk (some 71) none (.k (.mov (.tmp 8))), .mk (some 72) none (.k (.mov (.tmp 10))), .mk (some 73) none (.k (.build [.int .i64 0, .int .i64 0] [(0, 1, .tmp 71), (1, 1, .tmp 72)])), .mk (some 74) none (.k (.buildS 28 1 2 [.int .i64 0, .int .i64 0] [(0, .tmp 73)])), .mk (some 75) none (.k (.app 28 2 16 (.tmp 70) (.tmp 74))), .mk (some 7) none (.k (.mov (.tmp 75)))]
def T18n2 : XC := .seq (.ops [.mk (some 34) none (.k (.mov (.tmp 8))), .mk (some 35) none (.k (.mov (.tmp 10))), .mk (some 36) none (.k (.cmp .neq .i64 (.tmp 34) (.tmp 35))), .mk (some 37) none (.k (.mov (.tmp 36))), .mk (some 38) (some (37, true)) (.k (.fld 4 (.tmp 11))), .mk (some 39) (some (37, true)) (.k (.load [.int .i64] false (.tmp 38))), .mk (some 40) (some (37, true)) (.k (.fld 6 (.tmp 9))), .mk (some 41) (some (37, true)) (.k (.load [.int .i64] false (.tmp 40))), .mk (some 42) (some (37, true)) (.k (.cmp .gtr .i64 (.tmp 39) (.tmp 41))), .mk (some 43) (some (37, true)) (.k (.mov (.tmp 42))), .mk (some 44) (some (43, false)) (.k (.fld 0 (.tmp 9))), .mk (some 45) (some (43, false)) (.k (.load [.int .i64] false (.tmp 44))), .mk (some 46) (some (43, false)) (.k (.fld 0 (.tmp 11))), .mk (some 47) (some (43, false)) (.k (.load [.int .i64] false (.tmp 46))), .mk (some 48) (some (43, false)) (.k (.cmp .eql .i64 (.tmp 45) (.tmp 47))), .mk (some 49) (some (43, false)) (.k (.mov (.tmp 48))), .mk (some 50) (some (49, true)) (.k (.fld 4 (.tmp 11))), .mk (some 51) (some (49, true)) (.k (.load [.int .i64] false (.tmp 50))), .mk (some 52) (some (49, true)) (.k (.fld 4 (.tmp 9))), .mk (some 53) (some (49, true)) (.k (.load [.int .i64] false (.tmp 52))), .mk (some 54) (some (49, true)) (.k (.cmp .gtr .i64 (.tmp 51) (.tmp 53))), .mk (some 55) (some (43, false)) (.k (.pick (.tmp 49) (.tmp 54) (.const (.bool false)))), .mk (some 56) (some (37, true)) (.k (.pick (.tmp 43) (.const (.bool true)) (.tmp 55))), .mk (some 57) (some (37, true)) (.k (.mov (.tmp 56))), .mk (some 58) (some (57, false)) (.k (.fld 5 (.tmp 9))), .mk (some 59) (some (57, false)) (.k (.load [.int .i64] false (.tmp 58))), .mk (some 60) (some (57, false)) (.k (.fld 5 (.tmp 11))), .mk (some 61) (some (57, false)) (.k (.load [.int .i64] false (.tmp 60))), .mk (some 62) (some (57, false)) (.k (.cmp .lss .i64 (.tmp 59) (.tmp 61))), .mk (some 63) (some (57, false)) (.k (.mov (.tmp 62))), .mk (some 64) (some (63, true)) (.k (.load [.int .i64, .int .i64, .int .i64, .int .i64, .int .i64, .int .i64, .int .i64, .slc, .slc, .bool, .int .i64] true (.tmp 9))), .mk (some 65) (some (63, true)) (.k (.load [.int .i64, .int .i64, .int .i64, .int .i64, .int .i64, .int .i64, .int .i64, .slc, .slc, .bool, .int .i64] true (.tmp 11))), .mk (some 66) (some (63, true)) (.call 32 [.tmp 64, .tmp 65]), .mk (some 67) (some (57, false)) (.k (.pick (.tmp 63) (.tmp 66) (.const (.bool false)))), .mk (some 68) (some (37, true)) (.k (.pick (.tmp 57) (.const (.bool true)) (.tmp 67))), .mk (some 69) none (.k (.pick (.tmp 37) (.tmp 68) (.const (.bool false))))]) (.cond (.tmp 69) (.ref 1) .skip)
def T18n3 : XC := .seq (.blk 3 (.seq (.ops [.mk (some 31) none (.k (.mov (.tmp 29))), .mk (some 32) none (.k (.idx 11 (.tmp 27) (.tmp 29))), .mk (some 33) none (.k (.load [.int .i64, .int .i64, .int .i64, .int .i64, .int .i64, .int .i64, .int .i64, .slc, .slc, .bool, .int .i64] true (.tmp 32))), .mk (some 11) none (.k (.alloc 75 [.int .i64 0, .int .i64 0, .int .i64 0, .int .i64 0, .int .i64 0, .int .i64 0, .int .i64 0, .slice none 0 0, .slice none 0 0, .bool false, .int .i64 0])), .mk (some 10) none (.k (.mov (.tmp 31))), .mk none none (.k (.store 11 (.tmp 11) (.tmp 33)))]) (.ref 2))) (.ops [.mk (some 76) none (.k (.arith .add .i64 (.tmp 29) (.const (.int .i64 1)))), .mk (some 29) none (.k (.mov (.tmp 76)))])
def T18n4 : XC := .seq (.cond (.tmp 30) .skip (.exit 2)) (.ref 3)
def T18n5 : XC := .seq (.ops [.mk (some 30) none (.k (.cmp .lss .i64 (.tmp 29) (.tmp 28)))]) (.ref 4)
def T18n6 : XC := .seq (.ops [.mk (some 27) none (.k (.mov (.tmp 5))), .mk (some 28) none (.k (.lenS (.tmp 27))), .mk (some 29) none (.k (.mov (.const (.int .i64 0))))]) (.blk 2 (.loop (.ref 5)))
def T18n7 : XC := .seq (.blk 1 (.seq (.ops [.mk (some 24) none (.k (.mov (.tmp 22))), .mk (some 25) none (.k (.idx 11 (.tmp 20) (.tmp 22))), .mk (some 26) none (.k (.load [.int .i64, .int .i64, .int .i64, .int .i64, .int .i64, .int .i64, .int .i64, .slc, .slc, .bool, .int .i64] true (.tmp 25))), .mk (some 9) none (.k (.alloc 75 [.int .i64 0, .int .i64 0, .int .i64 0, .int .i64 0, .int .i64 0, .int .i64 0, .int .i64 0, .slice none 0 0, .slice none 0 0, .bool false, .int .i64 0])), .mk (some 8) none (.k (.mov (.tmp 24))), .mk none none (.k (.store 11 (.tmp 9) (.tmp 26)))]) (.ref 6))) (.ops [.mk (some 77) none (.k (.arith .add .i64 (.tmp 22) (.const (.int .i64 1)))), .mk (some 22) none (.k (.mov (.tmp 77)))])
def T18n8 : XC := .seq (.cond (.tmp 23) .skip (.exit 0)) (.ref 7)
def T18n9 : XC := .seq (.ops [.mk (some 23) none (.k (.cmp .lss .i64 (.tmp 22) (.tmp 21)))]) (.ref 8)
def T18n10 : XC := .seq (.ops [.mk (some 78) none (.k (.mov (.tmp 5))), .mk (some 79) none (.k (.lenS (.tmp 78))), .mk (some 80) none (.k (.mov (.tmp 7))), .mk (some 2) none (.k (.mov (.tmp 79))), .mk (some 3) none (.k (.mov (.tmp 80))), .mk (some 4) none (.k (.mov (.const (.int .i64 0))))]) .ret
def T18n11 : XC := .seq (.seq (.ops [.mk (some 20) none (.k (.mov (.tmp 5))), .mk (some 21) none (.k (.lenS (.tmp 20))), .mk (some 22) none (.k (.mov (.const (.int .i64 0))))]) (.blk 0 (.loop (.ref 9)))) (.ref 10)
def T18n12 : XC := .seq (.ops [.mk (some 7) none (.k (.mov (.const (.slice none 0 0))))]) (.ref 11)
def T18n13 : XC := .seq (.seq (.ops [.mk (some 17) none (.k (.mov (.tmp 6))), .mk (some 18) none (.k (.cmp .neq .i64 (.tmp 17) (.const (.int .i64 0))))]) (.cond (.tmp 18) (.ref 0) .skip)) (.ref 12)
def T18n14 : XC := .seq (.ops [.mk (some 13) none (.k (.mov (.tmp 0))), .mk (some 14) none (.call 31 [.tmp 13]), .mk (some 12) none (.k (.mov (.tmp 14))), .mk (some 15) none (.k (.ext (.tmp 12) 0)), .mk (some 16) none (.k (.ext (.tmp 12) 1)), .mk (some 5) none (.k (.mov (.tmp 15))), .mk (some 6) none (.k (.mov (.tmp 16)))]) (.ref 13)
def T18 : Nat → XC
 | 0 => T18n0
 | 1 => T18n1
 | 2 => T18n2
 | 3 => T18n3
 | 4 => T18n4
 | 5 => T18n5
 | 6 => T18n6
 | 7 => T18n7
 | 8 => T18n8
 | 9 => T18n9
 | 10 => T18n10
 | 11 => T18n11
 | 12 => T18n12
 | 13 => T18n13
 | 14 => T18n14
 | _ => .skip
theorem t18n0 : T18 0 = T18n0 := rfl
theorem t18n1 : T18 1 = T18n1 := rfl
theorem t18n2 : T18 2 = T18n2 := rfl
theorem t18n3 : T18 3 = T18n3 := rfl
theorem t18n4 : T18 4 = T18n4 := rfl
theorem t18n5 : T18 5 = T18n5 := rfl
theorem t18n6 : T18 6 = T18n6 := rfl
theorem t18n7 : T18 7 = T18n7 := rfl
theorem t18n8 : T18 8 = T18n8 := rfl
theorem t18n9 : T18 9 = T18n9 := rfl
theorem t18n10 : T18 10 = T18n10 := rfl
theorem t18n11 : T18 11 = T18n11 := rfl
theorem t18n12 : T18 12 = T18n12 := rfl
theorem t18n13 : T18 13 = T18n13 := rfl
theorem t18n14 : T18 14 = T18n14 := rfl
def X18 : XC := .seq (.ops [.mk (some 2) none (.k (.mov (.const (.int .i64 0)))), .mk (some 3) none (.k (.mov (.const (.slice none 0 0)))), .mk (some 4) none (.k (.mov (.const (.int .i64 0))))]) (.ref 14)
abbrev K18 : List Nat := [0, 2, 3, 4, 5, 6, 7, 8, 9, 10, 11, 18, 20, 21, 22, 23, 27, 28, 29, 30, 69]
theorem n18 : Try.f18.ntmps = 81 := by kernel_rfl
theorem r18 : resT Try.f18.results.toList = some [2, 3, 4] := by kernel_rfl
theorem x18 : cmpF Try.prog Try.f18 = some (expand T18 16 X18) := by kernel_rfl
def T33n0 : XC := .seq (.ops [.mk (some 2) none (.k (.mov (.const (.slice none 0 0)))), .mk (some 3) none (.k (.mov (.const (.int .i64 120))))]) .ret
def T33n1 : XC := .ops [.mk (some 37) none (.k (.mov (.tmp 7))), .mk (some 38) none (.k (.mov (.tmp 5))), .mk (some 39) none (.k (.mov (.tmp 8))), .mk (some 40) none (.k (.idx 11 (.tmp 38) (.tmp 39))), .mk (some 41) none (.k (.load [.int .i64, .int .i64, .int .i64, .int .i64, .int .i64, .int .i64, .int .i64, .slc, .slc, .bool, .int .i64] true (.tmp 40))), .mk (some 42) none (.k (.buildS 75 1 11 [.int .i64 0, .int .i64 0, .int .i64 0, .int .i64 0, .int .i64 0, .int .i64 0, .int .i64 0, .slice none 0 0, .slice none 0 0, .bool false, .int .i64 0] [(0, .tmp 41)])), .mk (some 43) none (.k (.app 75 11 120 (.tmp 37) (.tmp 42))), .mk (some 7) none (.k (.mov (.tmp 43)))]
def T33n2 : XC := .ops [.mk (some 22) none (.k (.mov (.tmp 8))), .mk (some 23) none (.k (.arith .add .i64 (.tmp 22) (.const (.int .i64 1)))), .mk (some 8) none (.k (.mov (.tmp 23)))]
def T33n3 : XC := .seq (.blk 1 (.seq (.ops [.mk (some 24) none (.k (.mov (.tmp 5))), .mk (some 25) none (.k (.mov (.tmp 8))), .mk (some 26) none (.k (.idx 11 (.tmp 24) (.tmp 25))), .mk (some 27) none (.k (.fld 9 (.tmp 26))), .mk (some 28) none (.k (.load [.bool] false (.tmp 27))), .mk (some 29) none (.k (.mov (.tmp 28))), .mk (some 30) (some (29, true)) (.k (.mov (.tmp 5))), .mk (some 31) (some (29, true)) (.k (.mov (.tmp 8))), .mk (some 32) (some (29, true)) (.k (.idx 11 (.tmp 30) (.tmp 31))), .mk (some 33) (some (29, true)) (.k (.fld 5 (.tmp 32))), .mk (some 34) (some (29, true)) (.k (.load [.int .i64] false (.tmp 33))), .mk (some 35) (some (29, true)) (.k (.cmp .geq .i64 (.tmp 34) (.const (.int .i64 0)))), .mk (some 36) none (.k (.pick (.tmp 29) (.tmp 35) (.const (.bool false))))]) (.cond (.tmp 36) (.ref 1) .skip))) (.ref 2)
def T33n4 : XC := .seq (.seq (.ops [.mk (some 18) none (.k (.mov (.tmp 8))), .mk (some 19) none (.k (.mov (.tmp 5))), .mk (some 20) none (.k (.lenS (.tmp 19))), .mk (some 21) none (.k (.cmp .lss .i64 (.tmp 18) (.tmp 20)))]) (.cond (.tmp 21) .skip (.exit 0))) (.ref 3)
def T33n5 : XC := .seq (.ops [.mk (some 2) none (.k (.mov (.const (.slice none 0 0)))), .mk (some 3) none (.k (.mov (.const (.int .i64 120))))]) .ret
def T33n6 : XC := .seq (.ops [.mk (some 47) none (.k (.mov (.tmp 7))), .mk (some 2) none (.k (.mov (.tmp 47))), .mk (some 3) none (.k (.mov (.const (.int .i64 0))))]) .ret
def T33n7 : XC := .seq (.seq (.ops [.mk (some 44) none (.k (.mov (.tmp 7))), .mk (some 45) none (.k (.lenS (.tmp 44))), .mk (some 46) none (.k (.cmp .gtr .i64 (.tmp 45) (.const (.int .i64 500))))]) (.cond (.tmp 46) (.ref 5) .skip)) (.ref 6)
def T33n8 : XC := .seq (.seq (.ops [.mk (some 8) none (.k (.mov (.const (.int .i64 0))))]) (.blk 0 (.loop (.ref 4)))) (.ref 7)
def T33n9 : XC := .seq (.ops [.mk (some 7) none (.k (.mov (.const (.slice none 0 0))))]) (.ref 8)
def T33n10 : XC := .seq (.ops [.mk (some 14) none (.k (.mov (.tmp 0))), .mk (some 15) none (.call 56 [.tmp 14]), .mk (some 13) none (.k (.mov (.tmp 15))), .mk (some 16) none (.k (.ext (.tmp 13) 0)), .mk (some 17) none (.k (.ext (.tmp 13) 1)), .mk (some 5) none (.k (.mov (.tmp 16))), .mk (some 6) none (.k (.mov (.tmp 17)))]) (.ref 9)
def T33n11 : XC := .seq (.seq (.ops [.mk (some 11) none (.k (.mov (.tmp 4))), .mk (some 12) none (.k (.not (.tmp 11)))]) (.cond (.tmp 12) (.ref 0) .skip)) (.ref 10)
def T33n12 : XC := .seq (.ops [.mk (some 9) none (.k (.mov (.tmp 0))), .mk (some 10) none (.call 55 [.tmp 9]), .mk (some 4) none (.k (.mov (.tmp 10)))]) (.ref 11)
def T33 : Nat → XC
 | 0 => T33n0
 | 1 => T33n1
 | 2 => T33n2
 | 3 => T33n3
 | 4 => T33n4
 | 5 => T33n5
 | 6 => T33n6
 | 7 => T33n7
 | 8 => T33n8
 | 9 => T33n9
 | 10 => T33n10
 | 11 => T33n11
 | 12 => T33n12
 | _ => .skip
theorem t33n0 : T33 0 = T33n0 := rfl
theorem t33n1 : T33 1 = T33n1 := rfl
theorem t33n2 : T33 2 = T33n2 := rfl
theorem t33n3 : T33 3 = T33n3 := rfl
theorem t33n4 : T33 4 = T33n4 := rfl
theorem t33n5 : T33 5 = T33n5 := rfl
theorem t33n6 : T33 6 = T33n6 := rfl
theorem t33n7 : T33 7 = T33n7 := rfl
theorem t33n8 : T33 8 = T33n8 := rfl
theorem t33n9 : T33 9 = T33n9 := rfl
theorem t33n10 : T33 10 = T33n10 := rfl
theorem t33n11 : T33 11 = T33n11 := rfl
theorem t33n12 : T33 12 = T33n12 := rfl
def X33 : XC := .seq (.ops [.mk (some 2) none (.k (.mov (.const (.slice none 0 0)))), .mk (some 3) none (.k (.mov (.const (.int .i64 0))))]) (.ref 12)
abbrev K33 : List Nat := [0, 2, 3, 4, 5, 7, 8, 12, 21, 36, 46]
theorem n33 : Try.f33.ntmps = 48 := by kernel_rfl
theorem r33 : resT Try.f33.results.toList = some [2, 3] := by kernel_rfl
theorem x33 : cmpF Try.prog Try.f33 = some (expand T33 14 X33) := by kernel_rfl
def T34n0 : XC := .seq (.ops [.mk (some 4) none (.k (.mov (.const (.bool true))))]) .ret
def T34n1 : XC := .seq (.ops [.mk (some 20) none (.k (.fld 7 (.tmp 3))), .mk (some 21) none (.k (.load [.slc] false (.tmp 20))), .mk (some 22) none (.k (.mov (.tmp 6))), .mk (some 23) none (.call 57 [.tmp 21, .tmp 22]), .mk (some 24) none (.k (.mov (.tmp 23))), .mk (some 25) (some (24, false)) (.k (.fld 8 (.tmp 3))), .mk (some 26) (some (24, false)) (.k (.load [.slc] false (.tmp 25))), .mk (some 27) (some (24, false)) (.k (.mov (.tmp 6))), .mk (some 28) (some (24, false)) (.call 57 [.tmp 26, .tmp 27]), .mk (some 29) none (.k (.pick (.tmp 24) (.const (.bool true)) (.tmp 28)))]) (.cond (.tmp 29) (.ref 0) .skip)
def T34n2 : XC := .ops [.mk (some 12) none (.k (.mov (.tmp 5))), .mk (some 13) none (.k (.arith .add .i64 (.tmp 12) (.const (.int .i64 1)))), .mk (some 5) none (.k (.mov (.tmp 13)))]
def T34n3 : XC := .seq (.blk 1 (.seq (.ops [.mk (some 14) none (.k (.fld 8 (.tmp 2))), .mk (some 15) none (.k (.load [.slc] false (.tmp 14))), .mk (some 16) none (.k (.mov (.tmp 5))), .mk (some 17) none (.k (.idx 2 (.tmp 15) (.tmp 16))), .mk (some 18) none (.k (.fld 0 (.tmp 17))), .mk (some 19) none (.k (.load [.int .i64] false (.tmp 18))), .mk (some 6) none (.k (.mov (.tmp 19)))]) (.ref 1))) (.ref 2)
def T34n4 : XC := .seq (.seq (.ops [.mk (some 7) none (.k (.mov (.tmp 5))), .mk (some 8) none (.k (.fld 8 (.tmp 2))), .mk (some 9) none (.k (.load [.slc] false (.tmp 8))), .mk (some 10) none (.k (.lenS (.tmp 9))), .mk (some 11) none (.k (.cmp .lss .i64 (.tmp 7) (.tmp 10)))]) (.cond (.tmp 11) .skip (.exit 0))) (.ref 3)
def T34n5 : XC := .seq (.ops [.mk (some 4) none (.k (.mov (.const (.bool false))))]) .ret
def T34n6 : XC := .seq (.seq (.ops [.mk (some 5) none (.k (.mov (.const (.int .i64 0))))]) (.blk 0 (.loop (.ref 4)))) (.ref 5)
def T34 : Nat → XC
 | 0 => T34n0
 | 1 => T34n1
 | 2 => T34n2
 | 3 => T34n3
 | 4 => T34n4
 | 5 => T34n5
 | 6 => T34n6
 | _ => .skip
theorem t34n0 : T34 0 = T34n0 := rfl
theorem t34n1 : T34 1 = T34n1 := rfl
theorem t34n2 : T34 2 = T34n2 := rfl
theorem t34n3 : T34 3 = T34n3 := rfl
theorem t34n4 : T34 4 = T34n4 := rfl
theorem t34n5 : T34 5 = T34n5 := rfl
theorem t34n6 : T34 6 = T34n6 := rfl
def X34 : XC := .seq (.ops [.mk (some 2) none (.k (.box 75 11 (.tmp 0))), .mk (some 3) none (.k (.box 75 11 (.tmp 1))), .mk (some 4) none (.k (.mov (.const (.bool false))))]) (.ref 6)
abbrev K34 : List Nat := [0, 1, 2, 3, 4, 5, 6, 11, 29]
theorem n34 : Try.f34.ntmps = 30 := by kernel_rfl
theorem r34 : resT Try.f34.results.toList = some [4] := by kernel_rfl
theorem x34 : cmpF Try.prog Try.f34 = some (expand T34 8 X34) := by kernel_rfl
def T57n0 : XC := .seq (.ops [.mk (some 4) none (.k (.mov (.const (.bool true))))]) .ret
def T57n1 : XC := .ops [.mk (some 10) none (.k (.mov (.tmp 5))), .mk (some 11) none (.k (.arith .add .i64 (.tmp 10) (.const (.int .i64 1)))), .mk (some 5) none (.k (.mov (.tmp 11)))]
def T57n2 : XC := .seq (.blk 1 (.seq (.ops [.mk (some 12) none (.k (.mov (.tmp 0))), .mk (some 13) none (.k (.mov (.tmp 5))), .mk (some 14) none (.k (.idx 2 (.tmp 12) (.tmp 13))), .mk (some 15) none (.k (.fld 0 (.tmp 14))), .mk (some 16) none (.k (.load [.int .i64] false (.tmp 15))), .mk (some 17) none (.k (.mov (.tmp 1))), .mk (some 18) none (.k (.cmp .eql .i64 (.tmp 16) (.tmp 17)))]) (.cond (.tmp 18) (.ref 0) .skip))) (.ref 1)
def T57n3 : XC := .seq (.seq (.ops [.mk (some 6) none (.k (.mov (.tmp 5))), .mk (some 7) none (.k (.mov (.tmp 0))), .mk (some 8) none (.k (.lenS (.tmp 7))), .mk (some 9) none (.k (.cmp .lss .i64 (.tmp 6) (.tmp 8)))]) (.cond (.tmp 9) .skip (.exit 0))) (.ref 2)
def T57n4 : XC := .seq (.ops [.mk (some 4) none (.k (.mov (.const (.bool false))))]) .ret
def T57n5 : XC := .seq (.seq (.ops [.mk (some 5) none (.k (.mov (.const (.int .i64 0))))]) (.blk 0 (.loop (.ref 3)))) (.ref 4)
def T57 : Nat → XC
 | 0 => T57n0
 | 1 => T57n1
 | 2 => T57n2
 | 3 => T57n3
 | 4 => T57n4
 | 5 => T57n5
 | _ => .skip
theorem t57n0 : T57 0 = T57n0 := rfl
theorem t57n1 : T57 1 = T57n1 := rfl
theorem t57n2 : T57 2 = T57n2 := rfl
theorem t57n3 : T57 3 = T57n3 := rfl
theorem t57n4 : T57 4 = T57n4 := rfl
theorem t57n5 : T57 5 = T57n5 := rfl
def X57 : XC := .seq (.ops [.mk (some 4) none (.k (.mov (.const (.bool false))))]) (.ref 5)
abbrev K57 : List Nat := [0, 1, 4, 5, 9, 18]
theorem n57 : Try.f57.ntmps = 19 := by kernel_rfl
theorem r57 : resT Try.f57.results.toList = some [4] := by kernel_rfl
theorem x57 : cmpF Try.prog Try.f57 = some (expand T57 7 X57) := by kernel_rfl
def T19n0 : XC := .seq (.ops [.mk (some 22) none (.k (.mov (.tmp 6))), .mk (some 2) none (.k (.mov (.const (.int .i64 0)))), .mk (some 3) none (.k (.mov (.const (.slice none 0 0)))), .mk (some 4) none (.k (.mov (.tmp 22)))]) .ret
def T19n1 : XC := .ops [.mk (some 87) none (.k (.mov (.tmp 7))), .mk (some 88) none (.k (.mov (.tmp 8))), .mk (some 89) none (.k (.mov (.tmp 9))), .mk (some 90) none (.k (.build [.int .i64 0, .int .i64 0] [(0, 1, .tmp 88), (1, 1, .tmp 89)])), .mk (some 91) none (.k (.buildS 28 1 2 [.int .i64 0, .int .i64 0] [(0, .tmp 90)])), .mk (some 92) none (.k (.app 28 2 16 (.tmp 87) (.tmp 91))), .mk (some 7) none (.k (.mov (.tmp 92)))]
def T19n2 : XC := .seq (.ops [.mk (some 75) none (.k (.mov (.tmp 8))), .mk (some 76) none (.k (.mov (.tmp 9))), .mk (some 77) none (.k (.cmp .neq .i64 (.tmp 75) (.tmp 76))), .mk (some 78) none (.k (.mov (.tmp 77))), .mk (some 79) (some (78, true)) (.k (.mov (.tmp 12))), .mk (some 80) (some (78, true)) (.k (.mov (.tmp 79))), .mk (some 81) (some (80, false)) (.k (.mov (.tmp 13))), .mk (some 82) (some (78, true)) (.k (.pick (.tmp 80) (.const (.bool true)) (.tmp 81))), .mk (some 83) (some (78, true)) (.k (.mov (.tmp 82))), .mk (some 84) (some (83, false)) (.k (.mov (.tmp 14))), .mk (some 85) (some (78, true)) (.k (.pick (.tmp 83) (.const (.bool true)) (.tmp 84))), .mk (some 86) none (.k (.pick (.tmp 78) (.tmp 85) (.const (.bool false))))]) (.cond (.tmp 86) (.ref 1) .skip)
def T19n3 : XC := .seq (.ops [.mk (some 60) none (.k (.fld 5 (.tmp 10))), .mk (some 61) none (.k (.load [.int .i64] false (.tmp 60))), .mk (some 62) none (.k (.fld 5 (.tmp 11))), .mk (some 63) none (.k (.load [.int .i64] false (.tmp 62))), .mk (some 64) none (.k (.cmp .lss .i64 (.tmp 61) (.tmp 63))), .mk (some 65) none (.k (.mov (.tmp 64))), .mk (some 66) (some (65, true)) (.k (.load [.int .i64, .int .i64, .int .i64, .int .i64, .int .i64, .int .i64, .int .i64, .slc, .slc, .bool, .int .i64] true (.tmp 10))), .mk (some 67) (some (65, true)) (.k (.load [.int .i64, .int .i64, .int .i64, .int .i64, .int .i64, .int .i64, .int .i64, .slc, .slc, .bool, .int .i64] true (.tmp 11))), .mk (some 68) (some (65, true)) (.call 34 [.tmp 66, .tmp 67]), .mk (some 69) (some (65, true)) (.k (.mov (.tmp 68))), .mk (some 70) (some (69, false)) (.k (.load [.int .i64, .int .i64, .int .i64, .int .i64, .int .i64, .int .i64, .int .i64, .slc, .slc, .bool, .int .i64] true (.tmp 11))), .mk (some 71) (some (69, false)) (.k (.load [.int .i64, .int .i64, .int .i64, .int .i64, .int .i64, .int .i64, .int .i64, .slc, .slc, .bool, .int .i64] true (.tmp 10))), .mk (some 72) (some (69, false)) (.call 34 [.tmp 70, .tmp 71]), .mk (some 73) (some (65, true)) (.k (.pick (.tmp 69) (.const (.bool true)) (.tmp 72))), .mk (some 74) none (.k (.pick (.tmp 65) (.tmp 73) (.const (.bool false)))), .mk (some 14) none (.k (.mov (.tmp 74)))]) (.ref 2)
def T19n4 : XC := .seq (.ops [.mk (some 48) none (.k (.fld 0 (.tmp 10))), .mk (some 49) none (.k (.load [.int .i64] false (.tmp 48))), .mk (some 50) none (.k (.fld 0 (.tmp 11))), .mk (some 51) none (.k (.load [.int .i64] false (.tmp 50))), .mk (some 52) none (.k (.cmp .eql .i64 (.tmp 49) (.tmp 51))), .mk (some 53) none (.k (.mov (.tmp 52))), .mk (some 54) (some (53, true)) (.k (.fld 4 (.tmp 11))), .mk (some 55) (some (53, true)) (.k (.load [.int .i64] false (.tmp 54))), .mk (some 56) (some (53, true)) (.k (.fld 4 (.tmp 10))), .mk (some 57) (some (53, true)) (.k (.load [.int .i64] false (.tmp 56))), .mk (some 58) (some (53, true)) (.k (.cmp .gtr .i64 (.tmp 55) (.tmp 57))), .mk (some 59) none (.k (.pick (.tmp 53) (.tmp 58) (.const (.bool false)))), .mk (some 13) none (.k (.mov (.tmp 59)))]) (.ref 3)
def T19n5 : XC := .seq (.ops [.mk (some 43) none (.k (.fld 4 (.tmp 11))), .mk (some 44) none (.k (.load [.int .i64] false (.tmp 43))), .mk (some 45) none (.k (.fld 6 (.tmp 10))), .mk (some 46) none (.k (.load [.int .i64] false (.tmp 45))), .mk (some 47) none (.k (.cmp .gtr .i64 (.tmp 44) (.tmp 46))), .mk (some 12) none (.k (.mov (.tmp 47)))]) (.ref 4)
def T19n6 : XC := .seq (.ops [.mk (some 39) none (.k (.mov (.tmp 5))), .mk (some 40) none (.k (.mov (.tmp 9))), .mk (some 41) none (.k (.idx 11 (.tmp 39) (.tmp 40))), .mk (some 42) none (.k (.load [.int .i64, .int .i64, .int .i64, .int .i64, .int .i64, .int .i64, .int .i64, .slc, .slc, .bool, .int .i64] true (.tmp 41))), .mk (some 11) none (.k (.alloc 75 [.int .i64 0, .int .i64 0, .int .i64 0, .int .i64 0, .int .i64 0, .int .i64 0, .int .i64 0, .slice none 0 0, .slice none 0 0, .bool false, .int .i64 0])), .mk none none (.k (.store 11 (.tmp 11) (.tmp 42)))]) (.ref 5)
def T19n7 : XC := .ops [.mk (some 33) none (.k (.mov (.tmp 9))), .mk (some 34) none (.k (.arith .add .i64 (.tmp 33) (.const (.int .i64 1)))), .mk (some 9) none (.k (.mov (.tmp 34)))]
def T19n8 : XC := .seq (.blk 3 (.seq (.ops [.mk (some 35) none (.k (.mov (.tmp 5))), .mk (some 36) none (.k (.mov (.tmp 8))), .mk (some 37) none (.k (.idx 11 (.tmp 35) (.tmp 36))), .mk (some 38) none (.k (.load [.int .i64, .int .i64, .int .i64, .int .i64, .int .i64, .int .i64, .int .i64, .slc, .slc, .bool, .int .i64] true (.tmp 37))), .mk (some 10) none (.k (.alloc 75 [.int .i64 0, .int .i64 0, .int .i64 0, .int .i64 0, .int .i64 0, .int .i64 0, .int .i64 0, .slice none 0 0, .slice none 0 0, .bool false, .int .i64 0])), .mk none none (.k (.store 11 (.tmp 10) (.tmp 38)))]) (.ref 6))) (.ref 7)
def T19n9 : XC := .seq (.seq (.ops [.mk (some 29) none (.k (.mov (.tmp 9))), .mk (some 30) none (.k (.mov (.tmp 5))), .mk (some 31) none (.k (.lenS (.tmp 30))), .mk (some 32) none (.k (.cmp .lss .i64 (.tmp 29) (.tmp 31)))]) (.cond (.tmp 32) .skip (.exit 2))) (.ref 8)
def T19n10 : XC := .ops [.mk (some 27) none (.k (.mov (.tmp 8))), .mk (some 28) none (.k (.arith .add .i64 (.tmp 27) (.const (.int .i64 1)))), .mk (some 8) none (.k (.mov (.tmp 28)))]
def T19n11 : XC := .seq (.blk 1 (.seq (.ops [.mk (some 9) none (.k (.mov (.const (.int .i64 0))))]) (.blk 2 (.loop (.ref 9))))) (.ref 10)
def T19n12 : XC := .seq (.seq (.ops [.mk (some 23) none (.k (.mov (.tmp 8))), .mk (some 24) none (.k (.mov (.tmp 5))), .mk (some 25) none (.k (.lenS (.tmp 24))), .mk (some 26) none (.k (.cmp .lss .i64 (.tmp 23) (.tmp 25)))]) (.cond (.tmp 26) .skip (.exit 0))) (.ref 11)
def T19n13 : XC := .seq (.ops [.mk (some 93) none (.k (.mov (.tmp 5))), .mk (some 94) none (.k (.lenS (.tmp 93))), .mk (some 95) none (.k (.mov (.tmp 7))), .mk (some 2) none (.k (.mov (.tmp 94))), .mk (some 3) none (.k (.mov (.tmp 95))), .mk (some 4) none (.k (.mov (.const (.int .i64 0))))]) .ret
def T19n14 : XC := .seq (.seq (.ops [.mk (some 8) none (.k (.mov (.const (.int .i64 0))))]) (.blk 0 (.loop (.ref 12)))) (.ref 13)
def T19n15 : XC := .seq (.ops [.mk (some 7) none (.k (.mov (.const (.slice none 0 0))))]) (.ref 14)
def T19n16 : XC := .seq (.seq (.ops [.mk (some 20) none (.k (.mov (.tmp 6))), .mk (some 21) none (.k (.cmp .neq .i64 (.tmp 20) (.const (.int .i64 0))))]) (.cond (.tmp 21) (.ref 0) .skip)) (.ref 15)
def T19n17 : XC := .seq (.ops [.mk (some 16) none (.k (.mov (.tmp 0))), .mk (some 17) none (.call 33 [.tmp 16]), .mk (some 15) none (.k (.mov (.tmp 17))), .mk (some 18) none (.k (.ext (.tmp 15) 0)), .mk (some 19) none (.k (.ext (.tmp 15) 1)), .mk (some 5) none (.k (.mov (.tmp 18))), .mk (some 6) none (.k (.mov (.tmp 19)))]) (.ref 16)
def T19 : Nat → XC
 | 0 => T19n0
 | 1 => T19n1
 | 2 => T19n2
 | 3 => T19n3
 | 4 => T19n4
 | 5 => T19n5
 | 6 => T19n6
 | 7 => T19n7
 | 8 => T19n8
 | 9 => T19n9
 | 10 => T19n10
 | 11 => T19n11
 | 12 => T19n12
 | 13 => T19n13
 | 14 => T19n14
 | 15 => T19n15
 | 16 => T19n16
 | 17 => T19n17
 | _ => .skip
theorem t19n0 : T19 0 = T19n0 := rfl
theorem t19n1 : T19 1 = T19n1 := rfl
theorem t19n2 : T19 2 = T19n2 := rfl
theorem t19n3 : T19 3 = T19n3 := rfl
theorem t19n4 : T19 4 = T19n4 := rfl
theorem t19n5 : T19 5 = T19n5 := rfl
theorem t19n6 : T19 6 = T19n6 := rfl
theorem t19n7 : T19 7 = T19n7 := rfl
theorem t19n8 : T19 8 = T19n8 := rfl
theorem t19n9 : T19 9 = T19n9 := rfl
theorem t19n10 : T19 10 = T19n10 := rfl
theorem t19n11 : T19 11 = T19n11 := rfl
theorem t19n12 : T19 12 = T19n12 := rfl
theorem t19n13 : T19 13 = T19n13 := rfl
theorem t19n14 : T19 14 = T19n14 := rfl
theorem t19n15 : T19 15 = T19n15 := rfl
theorem t19n16 : T19 16 = T19n16 := rfl
theorem t19n17 : T19 17 = T19n17 := rfl
def X19 : XC := .seq (.ops [.mk (some 2) none (.k (.mov (.const (.int .i64 0)))), .mk (some 3) none (.k (.mov (.const (.slice none 0 0)))), .mk (some 4) none (.k (.mov (.const (.int .i64 0))))]) (.ref 17)
abbrev K19 : List Nat := [0, 2, 3, 4, 5, 6, 7, 8, 9, 10, 11, 12, 13, 14, 21, 26, 32, 86]
theorem n19 : Try.f19.ntmps = 96 := by kernel_rfl
theorem r19 : resT Try.f19.results.toList = some [2, 3, 4] := by kernel_rfl
theorem x19 : cmpF Try.prog Try.f19 = some (expand T19 19 X19) := by kernel_rfl
def T35n0 : XC := .seq (.ops [.mk (some 5) none (.k (.mov (.tmp 0))), .mk (some 6) none (.k (.mov (.tmp 1))), .mk (some 7) none (.call 58 [.tmp 5, .tmp 6]), .mk (some 8) none (.k (.cmp .geq .i64 (.tmp 7) (.const (.int .i64 0)))), .mk (some 4) none (.k (.mov (.tmp 8)))]) .ret
def T35 : Nat → XC
 | 0 => T35n0
 | _ => .skip
theorem t35n0 : T35 0 = T35n0 := rfl
def X35 : XC := .seq (.ops [.mk (some 4) none (.k (.mov (.const (.bool false))))]) (.ref 0)
abbrev K35 : List Nat := [0, 1, 4]
theorem n35 : Try.f35.ntmps = 9 := by kernel_rfl
theorem r35 : resT Try.f35.results.toList = some [4] := by kernel_rfl
theorem x35 : cmpF Try.prog Try.f35 = some (expand T35 2 X35) := by kernel_rfl
def T58n0 : XC := .seq (.ops [.mk (some 17) none (.k (.mov (.tmp 5))), .mk (some 4) none (.k (.mov (.tmp 17)))]) .ret
def T58n1 : XC := .seq (.ops [.mk (some 11) none (.k (.mov (.tmp 1))), .mk (some 12) none (.k (.mov (.tmp 0))), .mk (some 13) none (.k (.mov (.tmp 5))), .mk (some 14) none (.k (.idx 9 (.tmp 12) (.tmp 13))), .mk (some 15) none (.k (.load [.int .i64, .int .i64, .int .i64, .int .i64, .int .i64, .int .i64, .int .i64, .int .u64, .int .i64] true (.tmp 14))), .mk (some 16) none (.callv (.tmp 11) [.tmp 15])]) (.cond (.tmp 16) (.ref 0) .skip)
def T58n2 : XC := .seq (.blk 1 (.seq (.ops [.mk (some 10) none (.k (.mov (.tmp 8))), .mk (some 5) none (.k (.mov (.tmp 10)))]) (.ref 1))) (.ops [.mk (some 18) none (.k (.arith .add .i64 (.tmp 8) (.const (.int .i64 1)))), .mk (some 8) none (.k (.mov (.tmp 18)))])
def T58n3 : XC := .seq (.cond (.tmp 9) .skip (.exit 0)) (.ref 2)
def T58n4 : XC := .seq (.ops [.mk (some 9) none (.k (.cmp .lss .i64 (.tmp 8) (.tmp 7)))]) (.ref 3)
def T58n5 : XC := .seq (.ops [.mk (some 4) none (.k (.mov (.const (.int .i64 (-1)))))]) .ret
def T58n6 : XC := .seq (.seq (.ops [.mk (some 6) none (.k (.mov (.tmp 0))), .mk (some 7) none (.k (.lenS (.tmp 6))), .mk (some 8) none (.k (.mov (.const (.int .i64 0))))]) (.blk 0 (.loop (.ref 4)))) (.ref 5)
def T58 : Nat → XC
 | 0 => T58n0
 | 1 => T58n1
 | 2 => T58n2
 | 3 => T58n3
 | 4 => T58n4
 | 5 => T58n5
 | 6 => T58n6
 | _ => .skip
theorem t58n0 : T58 0 = T58n0 := rfl
theorem t58n1 : T58 1 = T58n1 := rfl
theorem t58n2 : T58 2 = T58n2 := rfl
theorem t58n3 : T58 3 = T58n3 := rfl
theorem t58n4 : T58 4 = T58n4 := rfl
theorem t58n5 : T58 5 = T58n5 := rfl
theorem t58n6 : T58 6 = T58n6 := rfl
def X58 : XC := .seq (.ops [.mk (some 4) none (.k (.mov (.const (.int .i64 0))))]) (.ref 6)
abbrev K58 : List Nat := [0, 1, 4, 5, 7, 8, 9, 16]
theorem n58 : Try.f58.ntmps = 19 := by kernel_rfl
theorem r58 : resT Try.f58.results.toList = some [4] := by kernel_rfl
theorem x58 : cmpF Try.prog Try.f58 = some (expand T58 8 X58) := by kernel_rfl
def T36n0 : XC := .seq (.ops [.mk (some 3) none (.k (.fld 0 (.tmp 1))), .mk (some 4) none (.k (.load [.int .i64] false (.tmp 3))), .mk (some 5) none (.k (.cmp .eql .i64 (.tmp 4) (.const (.int .i64 7)))), .mk (some 6) none (.k (.mov (.tmp 5))), .mk (some 7) (some (6, false)) (.k (.fld 0 (.tmp 1))), .mk (some 8) (some (6, false)) (.k (.load [.int .i64] false (.tmp 7))), .mk (some 9) (some (6, false)) (.k (.cmp .eql .i64 (.tmp 8) (.const (.int .i64 8)))), .mk (some 10) none (.k (.pick (.tmp 6) (.const (.bool true)) (.tmp 9))), .mk (some 2) none (.k (.mov (.tmp 10)))]) .ret
def T36 : Nat → XC
 | 0 => T36n0
 | _ => .skip
theorem t36n0 : T36 0 = T36n0 := rfl
def X36 : XC := .seq (.ops [.mk (some 1) none (.k (.box 53 9 (.tmp 0))), .mk (some 2) none (.k (.mov (.const (.bool false))))]) (.ref 0)
abbrev K36 : List Nat := [0, 1, 2]
theorem n36 : Try.f36.ntmps = 11 := by kernel_rfl
theorem r36 : resT Try.f36.results.toList = some [2] := by kernel_rfl
theorem x36 : cmpF Try.prog Try.f36 = some (expand T36 2 X36) := by kernel_rfl
def T37n0 : XC := .seq (.ops [.mk (some 8) none (.k (.mov (.tmp 3))), .mk (some 2) none (.k (.mov (.tmp 8)))]) .ret
def T37n1 : XC := .seq (.ops [.mk (some 6) none (.k (.mov (.tmp 3))), .mk (some 7) none (.call 44 [.tmp 6])]) (.ref 0)
def T37n2 : XC := .seq (.ops [.mk (some 4) none (.k (.mov (.tmp 0))), .mk (some 5) none (.call 59 [.tmp 4]), .mk (some 3) none (.k (.mov (.tmp 5)))]) (.ref 1)
def T37 : Nat → XC
 | 0 => T37n0
 | 1 => T37n1
 | 2 => T37n2
 | _ => .skip
theorem t37n0 : T37 0 = T37n0 := rfl
theorem t37n1 : T37 1 = T37n1 := rfl
theorem t37n2 : T37 2 = T37n2 := rfl
def X37 : XC := .seq (.ops [.mk (some 2) none (.k (.mov (.const (.slice none 0 0))))]) (.ref 2)
abbrev K37 : List Nat := [0, 2, 3]
theorem n37 : Try.f37.ntmps = 9 := by kernel_rfl
theorem r37 : resT Try.f37.results.toList = some [2] := by kernel_rfl
theorem x37 : cmpF Try.prog Try.f37 = some (expand T37 4 X37) := by kernel_rfl
def T38n0 : XC := .seq (.ops [.mk (some 3) none (.k (.mkfn (.func 60) [] [.tmp 1])), .mk (some 2) none (.k (.mov (.tmp 3)))]) .ret
def T38 : Nat → XC
 | 0 => T38n0
 | _ => .skip
theorem t38n0 : T38 0 = T38n0 := rfl
def X38 : XC := .seq (.ops [.mk (some 1) none (.k (.box 24 1 (.tmp 0))), .mk (some 2) none (.k (.mov (.const .nilFunc)))]) (.ref 0)
abbrev K38 : List Nat := [0, 1, 2]
theorem n38 : Try.f38.ntmps = 4 := by kernel_rfl
theorem r38 : resT Try.f38.results.toList = some [2] := by kernel_rfl
theorem x38 : cmpF Try.prog Try.f38 = some (expand T38 2 X38) := by kernel_rfl
def T59n0 : XC := .seq (.ops [.mk (some 3) none (.k (.mov (.tmp 0))), .mk (some 4) none (.call 73 [.const (.slice none 0 0), .tmp 3]), .mk (some 2) none (.k (.mov (.tmp 4)))]) .ret
def T59 : Nat → XC
 | 0 => T59n0
 | _ => .skip
theorem t59n0 : T59 0 = T59n0 := rfl
def X59 : XC := .seq (.ops [.mk (some 2) none (.k (.mov (.const (.slice none 0 0))))]) (.ref 0)
abbrev K59 : List Nat := [0, 2]
theorem n59 : Try.f59.ntmps = 5 := by kernel_rfl
theorem r59 : resT Try.f59.results.toList = some [2] := by kernel_rfl
theorem x59 : cmpF Try.prog Try.f59 = some (expand T59 2 X59) := by kernel_rfl
def T60n0 : XC := .seq (.ops [.mk (some 11) none (.k (.mov (.tmp 0))), .mk (some 12) none (.k (.mov (.tmp 4))), .mk (some 13) none (.callv (.tmp 11) [.tmp 12]), .mk (some 14) none (.k (.not (.tmp 13)))]) (.cond (.tmp 14) .ret .skip)
def T60n1 : XC := .seq (.blk 1 (.seq (.ops [.mk (some 9) none (.k (.idx 1 (.tmp 5) (.tmp 7))), .mk (some 10) none (.k (.load [.int .i64] false (.tmp 9))), .mk (some 4) none (.k (.mov (.tmp 10)))]) (.ref 0))) (.ops [.mk (some 15) none (.k (.arith .add .i64 (.tmp 7) (.const (.int .i64 1)))), .mk (some 7) none (.k (.mov (.tmp 15)))])
def T60n2 : XC := .seq (.cond (.tmp 8) .skip (.exit 0)) (.ref 1)
def T60n3 : XC := .seq (.ops [.mk (some 8) none (.k (.cmp .lss .i64 (.tmp 7) (.tmp 6)))]) (.ref 2)
def T60 : Nat → XC
 | 0 => T60n0
 | 1 => T60n1
 | 2 => T60n2
 | 3 => T60n3
 | _ => .skip
theorem t60n0 : T60 0 = T60n0 := rfl
theorem t60n1 : T60 1 = T60n1 := rfl
theorem t60n2 : T60 2 = T60n2 := rfl
theorem t60n3 : T60 3 = T60n3 := rfl
def X60 : XC := .seq (.ops [.mk (some 5) none (.k (.load [.slc] false (.tmp 1))), .mk (some 6) none (.k (.lenS (.tmp 5))), .mk (some 7) none (.k (.mov (.const (.int .i64 0))))]) (.blk 0 (.loop (.ref 3)))
abbrev K60 : List Nat := [0, 1, 4, 5, 6, 7, 8, 14]
theorem n60 : Try.f60.ntmps = 16 := by kernel_rfl
theorem r60 : resT Try.f60.results.toList = some [] := by kernel_rfl
theorem x60 : cmpF Try.prog Try.f60 = some (expand T60 5 X60) := by kernel_rfl
def T73n0 : XC := .blk 1 (.ops [.mk (some 8) none (.k (.load [.slc] false (.tmp 2))), .mk (some 9) none (.k (.mov (.tmp 5))), .mk (some 10) none (.k (.buildS 3 1 1 [.int .i64 0] [(0, .tmp 9)])), .mk (some 11) none (.k (.app 3 1 8 (.tmp 8) (.tmp 10))), .mk none none (.k (.store 1 (.tmp 2) (.tmp 11)))])
def T73n1 : XC := .blk 0 (.rng (.tmp 6) [7] (.ops [.mk (some 5) none (.k (.mov (.tmp 7)))]) (.ref 0))
def T73n2 : XC := .seq (.ops [.mk (some 12) none (.k (.load [.slc] false (.tmp 2))), .mk (some 4) none (.k (.mov (.tmp 12)))]) .ret
def T73n3 : XC := .seq (.seq (.ops [.mk (some 6) none (.k (.mov (.tmp 1)))]) (.ref 1)) (.ref 2)
def T73 : Nat → XC
 | 0 => T73n0
 | 1 => T73n1
 | 2 => T73n2
 | 3 => T73n3
 | _ => .skip
theorem t73n0 : T73 0 = T73n0 := rfl
theorem t73n1 : T73 1 = T73n1 := rfl
theorem t73n2 : T73 2 = T73n2 := rfl
theorem t73n3 : T73 3 = T73n3 := rfl
def X73 : XC := .seq (.ops [.mk (some 2) none (.k (.box 24 1 (.tmp 0))), .mk (some 4) none (.k (.mov (.const (.slice none 0 0))))]) (.ref 3)
abbrev K73 : List Nat := [0, 1, 2, 4, 5, 6, 7]
theorem n73 : Try.f73.ntmps = 13 := by kernel_rfl
theorem r73 : resT Try.f73.results.toList = some [4] := by kernel_rfl
theorem x73 : cmpF Try.prog Try.f73 = some (expand T73 5 X73) := by kernel_rfl
def T20n0 : XC := .seq (.ops [.mk (some 29) none (.k (.mov (.tmp 9))), .mk (some 6) none (.k (.mov (.const (.bool false)))), .mk (some 7) none (.k (.mov (.tmp 29)))]) .ret
def T20n1 : XC := .seq (.ops [.mk (some 6) none (.k (.mov (.const (.bool false)))), .mk (some 7) none (.k (.mov (.const (.int .i64 120))))]) .ret
def T20n2 : XC := .seq (.ops [.mk (some 6) none (.k (.mov (.const (.bool false)))), .mk (some 7) none (.k (.mov (.const (.int .i64 2))))]) .ret
def T20n3 : XC := .seq (.ops [.mk (some 42) none (.k (.mov (.tmp 12))), .mk (some 43) none (.k (.mov (.tmp 11))), .mk (some 44) none (.k (.cmp .neq .i64 (.tmp 42) (.tmp 43)))]) (.cond (.tmp 44) (.ref 2) .skip)
def T20n4 : XC := .seq (.blk 1 (.seq (.ops [.mk (some 39) none (.k (.mov (.tmp 37))), .mk (some 40) none (.k (.idx 1 (.tmp 35) (.tmp 37))), .mk (some 41) none (.k (.load [.int .i64] false (.tmp 40))), .mk (some 11) none (.k (.mov (.tmp 39))), .mk (some 12) none (.k (.mov (.tmp 41)))]) (.ref 3))) (.ops [.mk (some 45) none (.k (.arith .add .i64 (.tmp 37) (.const (.int .i64 1)))), .mk (some 37) none (.k (.mov (.tmp 45)))])
def T20n5 : XC := .seq (.cond (.tmp 38) .skip (.exit 0)) (.ref 4)
def T20n6 : XC := .seq (.ops [.mk (some 38) none (.k (.cmp .lss .i64 (.tmp 37) (.tmp 36)))]) (.ref 5)
def T20n7 : XC := .seq (.ops [.mk (some 6) none (.k (.mov (.const (.bool false)))), .mk (some 7) none (.k (.mov (.const (.int .i64 2))))]) .ret
def T20n8 : XC := .ops [.mk (some 59) none (.k (.mov (.tmp 13))), .mk (some 60) none (.k (.mov (.tmp 14))), .mk (some 61) none (.k (.mov (.tmp 15))), .mk none none (.k (.mupd (.int .i64) (.tmp 59) (.tmp 60) (.tmp 61)))]
def T20n9 : XC := .seq (.blk 3 (.seq (.ops [.mk (some 56) none (.k (.mov (.tmp 54))), .mk (some 57) none (.k (.idx 1 (.tmp 52) (.tmp 54))), .mk (some 58) none (.k (.load [.int .u64] false (.tmp 57))), .mk (some 14) none (.k (.mov (.tmp 56))), .mk (some 15) none (.k (.mov (.tmp 58)))]) (.ref 8))) (.ops [.mk (some 62) none (.k (.arith .add .i64 (.tmp 54) (.const (.int .i64 1)))), .mk (some 54) none (.k (.mov (.tmp 62)))])
def T20n10 : XC := .seq (.cond (.tmp 55) .skip (.exit 2)) (.ref 9)
def T20n11 : XC := .seq (.ops [.mk (some 55) none (.k (.cmp .lss .i64 (.tmp 54) (.tmp 53)))]) (.ref 10)
def T20n12 : XC := .seq (.ops [.mk (some 6) none (.k (.mov (.const (.bool false)))), .mk (some 7) none (.k (.mov (.const (.int .i64 0))))]) .ret
def T20n13 : XC := .seq (.ops [.mk (some 79) none (.k (.mov (.tmp 13))), .mk (some 80) none (.k (.fld 0 (.tmp 19))), .mk (some 81) none (.k (.load [.int .i64] false (.tmp 80))), .mk (some 82) none (.k (.lkup (.int .i64) (.int .u64 0) false (.tmp 79) (.tmp 81))), .mk (some 83) none (.k (.fld 1 (.tmp 19))), .mk (some 84) none (.k (.load [.int .u64] false (.tmp 83))), .mk (some 85) none (.k (.cmp .neq .u64 (.tmp 82) (.tmp 84)))]) (.cond (.tmp 85) (.ref 12) .skip)
def T20n14 : XC := .seq (.blk 7 (.seq (.ops [.mk (some 77) none (.k (.idx 2 (.tmp 73) (.tmp 75))), .mk (some 78) none (.k (.load [.int .i64, .int .u64] true (.tmp 77))), .mk (some 19) none (.k (.alloc 85 [.int .i64 0, .int .u64 0])), .mk none none (.k (.store 2 (.tmp 19) (.tmp 78)))]) (.ref 13))) (.ops [.mk (some 86) none (.k (.arith .add .i64 (.tmp 75) (.const (.int .i64 1)))), .mk (some 75) none (.k (.mov (.tmp 86)))])
def T20n15 : XC := .seq (.cond (.tmp 76) .skip (.exit 6)) (.ref 14)
def T20n16 : XC := .seq (.ops [.mk (some 76) none (.k (.cmp .lss .i64 (.tmp 75) (.tmp 74)))]) (.ref 15)
def T20n17 : XC := .ops [.mk (some 97) none (.k (.mov (.tmp 13))), .mk (some 98) none (.k (.fld 0 (.tmp 21))), .mk (some 99) none (.k (.load [.int .i64] false (.tmp 98))), .mk (some 100) none (.k (.fld 1 (.tmp 21))), .mk (some 101) none (.k (.load [.int .u64] false (.tmp 100))), .mk none none (.k (.mupd (.int .i64) (.tmp 97) (.tmp 99) (.tmp 101)))]
def T20n18 : XC := .seq (.blk 9 (.seq (.ops [.mk (some 95) none (.k (.idx 2 (.tmp 91) (.tmp 93))), .mk (some 96) none (.k (.load [.int .i64, .int .u64] true (.tmp 95))), .mk (some 21) none (.k (.alloc 85 [.int .i64 0, .int .u64 0])), .mk none none (.k (.store 2 (.tmp 21) (.tmp 96)))]) (.ref 17))) (.ops [.mk (some 102) none (.k (.arith .add .i64 (.tmp 93) (.const (.int .i64 1)))), .mk (some 93) none (.k (.mov (.tmp 102)))])
def T20n19 : XC := .seq (.cond (.tmp 94) .skip (.exit 8)) (.ref 18)
def T20n20 : XC := .seq (.ops [.mk (some 94) none (.k (.cmp .lss .i64 (.tmp 93) (.tmp 92)))]) (.ref 19)
def T20n21 : XC := .seq (.ops [.mk (some 87) none (.k (.mov (.tmp 8))), .mk (some 88) none (.k (.mov (.tmp 17))), .mk (some 89) none (.k (.idx 11 (.tmp 87) (.tmp 88))), .mk (some 90) none (.k (.fld 8 (.tmp 89))), .mk (some 91) none (.k (.load [.slc] false (.tmp 90))), .mk (some 92) none (.k (.lenS (.tmp 91))), .mk (some 93) none (.k (.mov (.const (.int .i64 0))))]) (.blk 8 (.loop (.ref 20)))
def T20n22 : XC := .seq (.seq (.ops [.mk (some 69) none (.k (.mov (.tmp 8))), .mk (some 70) none (.k (.mov (.tmp 17))), .mk (some 71) none (.k (.idx 11 (.tmp 69) (.tmp 70))), .mk (some 72) none (.k (.fld 7 (.tmp 71))), .mk (some 73) none (.k (.load [.slc] false (.tmp 72))), .mk (some 74) none (.k (.lenS (.tmp 73))), .mk (some 75) none (.k (.mov (.const (.int .i64 0))))]) (.blk 6 (.loop (.ref 16)))) (.ref 21)
def T20n23 : XC := .seq (.blk 5 (.seq (.ops [.mk (some 67) none (.k (.idx 1 (.tmp 63) (.tmp 65))), .mk (some 68) none (.k (.load [.int .i64] false (.tmp 67))), .mk (some 17) none (.k (.mov (.tmp 68)))]) (.ref 22))) (.ops [.mk (some 103) none (.k (.arith .add .i64 (.tmp 65) (.const (.int .i64 1)))), .mk (some 65) none (.k (.mov (.tmp 103)))])
def T20n24 : XC := .seq (.cond (.tmp 66) .skip (.exit 4)) (.ref 23)
def T20n25 : XC := .seq (.ops [.mk (some 66) none (.k (.cmp .lss .i64 (.tmp 65) (.tmp 64)))]) (.ref 24)
def T20n26 : XC := .seq (.ops [.mk (some 6) none (.k (.mov (.const (.bool true)))), .mk (some 7) none (.k (.mov (.const (.int .i64 0))))]) .ret
def T20n27 : XC := .seq (.seq (.ops [.mk (some 63) none (.k (.mov (.tmp 2))), .mk (some 64) none (.k (.lenS (.tmp 63))), .mk (some 65) none (.k (.mov (.const (.int .i64 0))))]) (.blk 4 (.loop (.ref 25)))) (.ref 26)
def T20n28 : XC := .seq (.seq (.ops [.mk (some 52) none (.k (.mov (.tmp 1))), .mk (some 53) none (.k (.lenS (.tmp 52))), .mk (some 54) none (.k (.mov (.const (.int .i64 0))))]) (.blk 2 (.loop (.ref 11)))) (.ref 27)
def T20n29 : XC := .seq (.ops [.mk (some 51) none (.k .mkmap), .mk (some 13) none (.k (.mov (.tmp 51)))]) (.ref 28)
def T20n30 : XC := .seq (.seq (.ops [.mk (some 46) none (.k (.mov (.tmp 2))), .mk (some 47) none (.k (.lenS (.tmp 46))), .mk (some 48) none (.k (.mov (.tmp 8))), .mk (some 49) none (.k (.lenS (.tmp 48))), .mk (some 50) none (.k (.cmp .neq .i64 (.tmp 47) (.tmp 49)))]) (.cond (.tmp 50) (.ref 7) .skip)) (.ref 29)
def T20n31 : XC := .seq (.seq (.ops [.mk (some 35) none (.k (.mov (.tmp 10))), .mk (some 36) none (.k (.lenS (.tmp 35))), .mk (some 37) none (.k (.mov (.const (.int .i64 0))))]) (.blk 0 (.loop (.ref 6)))) (.ref 30)
def T20n32 : XC := .seq (.ops [.mk (some 32) none (.k (.mov (.tmp 2))), .mk (some 33) none (.call 38 [.tmp 32]), .mk (some 34) none (.call 37 [.tmp 33]), .mk (some 10) none (.k (.mov (.tmp 34)))]) (.ref 31)
def T20n33 : XC := .seq (.seq (.ops [.mk (some 30) none (.k (.mov (.tmp 0))), .mk (some 31) none (.call 35 [.tmp 30, .func 36])]) (.cond (.tmp 31) (.ref 1) .skip)) (.ref 32)
def T20n34 : XC := .seq (.seq (.ops [.mk (some 27) none (.k (.mov (.tmp 9))), .mk (some 28) none (.k (.cmp .neq .i64 (.tmp 27) (.const (.int .i64 0))))]) (.cond (.tmp 28) (.ref 0) .skip)) (.ref 33)
def T20n35 : XC := .seq (.ops [.mk (some 23) none (.k (.mov (.tmp 0))), .mk (some 24) none (.call 31 [.tmp 23]), .mk (some 22) none (.k (.mov (.tmp 24))), .mk (some 25) none (.k (.ext (.tmp 22) 0)), .mk (some 26) none (.k (.ext (.tmp 22) 1)), .mk (some 8) none (.k (.mov (.tmp 25))), .mk (some 9) none (.k (.mov (.tmp 26)))]) (.ref 34)
def T20 : Nat → XC
 | 0 => T20n0
 | 1 => T20n1
 | 2 => T20n2
 | 3 => T20n3
 | 4 => T20n4
 | 5 => T20n5
 | 6 => T20n6
 | 7 => T20n7
 | 8 => T20n8
 | 9 => T20n9
 | 10 => T20n10
 | 11 => T20n11
 | 12 => T20n12
 | 13 => T20n13
 | 14 => T20n14
 | 15 => T20n15
 | 16 => T20n16
 | 17 => T20n17
 | 18 => T20n18
 | 19 => T20n19
 | 20 => T20n20
 | 21 => T20n21
 | 22 => T20n22
 | 23 => T20n23
 | 24 => T20n24
 | 25 => T20n25
 | 26 => T20n26
 | 27 => T20n27
 | 28 => T20n28
 | 29 => T20n29
 | 30 => T20n30
 | 31 => T20n31
 | 32 => T20n32
 | 33 => T20n33
 | 34 => T20n34
 | 35 => T20n35
 | _ => .skip
theorem t20n0 : T20 0 = T20n0 := rfl
theorem t20n1 : T20 1 = T20n1 := rfl
theorem t20n2 : T20 2 = T20n2 := rfl
theorem t20n3 : T20 3 = T20n3 := rfl
theorem t20n4 : T20 4 = T20n4 := rfl
theorem t20n5 : T20 5 = T20n5 := rfl
theorem t20n6 : T20 6 = T20n6 := rfl
theorem t20n7 : T20 7 = T20n7 := rfl
theorem t20n8 : T20 8 = T20n8 := rfl
theorem t20n9 : T20 9 = T20n9 := rfl
theorem t20n10 : T20 10 = T20n10 := rfl
theorem t20n11 : T20 11 = T20n11 := rfl
theorem t20n12 : T20 12 = T20n12 := rfl
theorem t20n13 : T20 13 = T20n13 := rfl
theorem t20n14 : T20 14 = T20n14 := rfl
theorem t20n15 : T20 15 = T20n15 := rfl
theorem t20n16 : T20 16 = T20n16 := rfl
theorem t20n17 : T20 17 = T20n17 := rfl
theorem t20n18 : T20 18 = T20n18 := rfl
theorem t20n19 : T20 19 = T20n19 := rfl
theorem t20n20 : T20 20 = T20n20 := rfl
theorem t20n21 : T20 21 = T20n21 := rfl
theorem t20n22 : T20 22 = T20n22 := rfl
theorem t20n23 : T20 23 = T20n23 := rfl
theorem t20n24 : T20 24 = T20n24 := rfl
theorem t20n25 : T20 25 = T20n25 := rfl
theorem t20n26 : T20 26 = T20n26 := rfl
theorem t20n27 : T20 27 = T20n27 := rfl
theorem t20n28 : T20 28 = T20n28 := rfl
theorem t20n29 : T20 29 = T20n29 := rfl
theorem t20n30 : T20 30 = T20n30 := rfl
theorem t20n31 : T20 31 = T20n31 := rfl
theorem t20n32 : T20 32 = T20n32 := rfl
theorem t20n33 : T20 33 = T20n33 := rfl
theorem t20n34 : T20 34 = T20n34 := rfl
theorem t20n35 : T20 35 = T20n35 := rfl
def X20 : XC := .seq (.ops [.mk (some 6) none (.k (.mov (.const (.bool false)))), .mk (some 7) none (.k (.mov (.const (.int .i64 0))))]) (.ref 35)
abbrev K20 : List Nat := [0, 1, 2, 6, 7, 8, 9, 10, 11, 12, 13, 14, 15, 17, 19, 21, 28, 31, 35, 36, 37, 38, 44, 50, 52, 53, 54, 55, 63, 64, 65, 66, 73, 74, 75, 76, 85, 91, 92, 93, 94]
theorem n20 : Try.f20.ntmps = 104 := by kernel_rfl
theorem r20 : resT Try.f20.results.toList = some [6, 7] := by kernel_rfl
theorem x20 : cmpF Try.prog Try.f20 = some (expand T20 37 X20) := by kernel_rfl
def T21n0 : XC := .seq (.ops [.mk (some 28) none (.k (.mov (.tmp 9))), .mk (some 6) none (.k (.mov (.const (.bool false)))), .mk (some 7) none (.k (.mov (.tmp 28)))]) .ret
def T21n1 : XC := .seq (.ops [.mk (some 6) none (.k (.mov (.const (.bool false)))), .mk (some 7) none (.k (.mov (.const (.int .i64 120))))]) .ret
def T21n2 : XC := .ops [.mk (some 33) none (.k (.mov (.tmp 10))), .mk (some 34) none (.k (.arith .add .i64 (.tmp 33) (.const (.int .i64 1)))), .mk (some 10) none (.k (.mov (.tmp 34)))]
def T21n3 : XC := .seq (.blk 1 (.seq (.ops [.mk (some 35) none (.k (.mov (.tmp 0))), .mk (some 36) none (.k (.mov (.tmp 10))), .mk (some 37) none (.k (.idx 9 (.tmp 35) (.tmp 36))), .mk (some 38) none (.k (.fld 0 (.tmp 37))), .mk (some 39) none (.k (.load [.int .i64] false (.tmp 38))), .mk (some 40) none (.k (.cmp .eql .i64 (.tmp 39) (.const (.int .i64 7)))), .mk (some 41) none (.k (.mov (.tmp 40))), .mk (some 42) (some (41, false)) (.k (.mov (.tmp 0))), .mk (some 43) (some (41, false)) (.k (.mov (.tmp 10))), .mk (some 44) (some (41, false)) (.k (.idx 9 (.tmp 42) (.tmp 43))), .mk (some 45) (some (41, false)) (.k (.fld 0 (.tmp 44))), .mk (some 46) (some (41, false)) (.k (.load [.int .i64] false (.tmp 45))), .mk (some 47) (some (41, false)) (.k (.cmp .eql .i64 (.tmp 46) (.const (.int .i64 8)))), .mk (some 48) none (.k (.pick (.tmp 41) (.const (.bool true)) (.tmp 47)))]) (.cond (.tmp 48) (.ref 1) .skip))) (.ref 2)
def T21n4 : XC := .seq (.seq (.ops [.mk (some 29) none (.k (.mov (.tmp 10))), .mk (some 30) none (.k (.mov (.tmp 0))), .mk (some 31) none (.k (.lenS (.tmp 30))), .mk (some 32) none (.k (.cmp .lss .i64 (.tmp 29) (.tmp 31)))]) (.cond (.tmp 32) .skip (.exit 0))) (.ref 3)
def T21n5 : XC := .seq (.ops [.mk (some 6) none (.k (.mov (.const (.bool false)))), .mk (some 7) none (.k (.mov (.const (.int .i64 2))))]) .ret
def T21n6 : XC := .seq (.ops [.mk (some 6) none (.k (.mov (.const (.bool false)))), .mk (some 7) none (.k (.mov (.const (.int .i64 2))))]) .ret
def T21n7 : XC := .ops [.mk (some 86) none (.k (.mov (.tmp 11))), .mk (some 87) none (.k (.mov (.tmp 2))), .mk (some 88) none (.k (.mov (.tmp 12))), .mk (some 89) none (.k (.idx 1 (.tmp 87) (.tmp 88))), .mk (some 90) none (.k (.load [.int .i64] false (.tmp 89))), .mk (some 91) none (.k (.idx 1 (.tmp 86) (.tmp 90))), .mk none none (.k (.store 1 (.tmp 91) (.const (.bool true))))]
def T21n8 : XC := .ops [.mk (some 61) none (.k (.mov (.tmp 12))), .mk (some 62) none (.k (.arith .add .i64 (.tmp 61) (.const (.int .i64 1)))), .mk (some 12) none (.k (.mov (.tmp 62)))]
def T21n9 : XC := .seq (.blk 3 (.seq (.seq (.ops [.mk (some 63) none (.k (.mov (.tmp 2))), .mk (some 64) none (.k (.mov (.tmp 12))), .mk (some 65) none (.k (.idx 1 (.tmp 63) (.tmp 64))), .mk (some 66) none (.k (.load [.int .i64] false (.tmp 65))), .mk (some 67) none (.k (.cmp .lss .i64 (.tmp 66) (.const (.int .i64 0)))), .mk (some 68) none (.k (.mov (.tmp 67))), .mk (some 69) (some (68, false)) (.k (.mov (.tmp 2))), .mk (some 70) (some (68, false)) (.k (.mov (.tmp 12))), .mk (some 71) (some (68, false)) (.k (.idx 1 (.tmp 69) (.tmp 70))), .mk (some 72) (some (68, false)) (.k (.load [.int .i64] false (.tmp 71))), .mk (some 73) (some (68, false)) (.k (.mov (.tmp 8))), .mk (some 74) (some (68, false)) (.k (.lenS (.tmp 73))), .mk (some 75) (some (68, false)) (.k (.cmp .geq .i64 (.tmp 72) (.tmp 74))), .mk (some 76) none (.k (.pick (.tmp 68) (.const (.bool true)) (.tmp 75))), .mk (some 77) none (.k (.mov (.tmp 76))), .mk (some 78) (some (77, false)) (.k (.mov (.tmp 11))), .mk (some 79) (some (77, false)) (.k (.mov (.tmp 2))), .mk (some 80) (some (77, false)) (.k (.mov (.tmp 12))), .mk (some 81) (some (77, false)) (.k (.idx 1 (.tmp 79) (.tmp 80))), .mk (some 82) (some (77, false)) (.k (.load [.int .i64] false (.tmp 81))), .mk (some 83) (some (77, false)) (.k (.idx 1 (.tmp 78) (.tmp 82))), .mk (some 84) (some (77, false)) (.k (.load [.bool] false (.tmp 83))), .mk (some 85) none (.k (.pick (.tmp 77) (.const (.bool true)) (.tmp 84)))]) (.cond (.tmp 85) (.ref 6) .skip)) (.ref 7))) (.ref 8)
def T21n10 : XC := .seq (.seq (.ops [.mk (some 57) none (.k (.mov (.tmp 12))), .mk (some 58) none (.k (.mov (.tmp 2))), .mk (some 59) none (.k (.lenS (.tmp 58))), .mk (some 60) none (.k (.cmp .lss .i64 (.tmp 57) (.tmp 59)))]) (.cond (.tmp 60) .skip (.exit 2))) (.ref 9)
def T21n11 : XC := .ops [.mk (some 122) none (.k (.mov (.tmp 1))), .mk (some 123) none (.k (.mov (.tmp 16))), .mk (some 124) none (.k (.idx 1 (.tmp 122) (.tmp 123))), .mk (some 125) none (.k (.load [.int .u64] false (.tmp 124))), .mk (some 17) none (.k (.mov (.tmp 125)))]
def T21n12 : XC := .ops [.mk (some 152) none (.k (.mov (.tmp 19))), .mk (some 153) none (.k (.mov (.tmp 20))), .mk (some 154) none (.k (.idx 2 (.tmp 152) (.tmp 153))), .mk (some 155) none (.k (.fld 1 (.tmp 154))), .mk (some 156) none (.k (.load [.int .u64] false (.tmp 155))), .mk (some 17) none (.k (.mov (.tmp 156)))]
def T21n13 : XC := .ops [.mk (some 143) none (.k (.mov (.tmp 20))), .mk (some 144) none (.k (.arith .add .i64 (.tmp 143) (.const (.int .i64 1)))), .mk (some 20) none (.k (.mov (.tmp 144)))]
def T21n14 : XC := .seq (.blk 11 (.seq (.ops [.mk (some 145) none (.k (.mov (.tmp 19))), .mk (some 146) none (.k (.mov (.tmp 20))), .mk (some 147) none (.k (.idx 2 (.tmp 145) (.tmp 146))), .mk (some 148) none (.k (.fld 0 (.tmp 147))), .mk (some 149) none (.k (.load [.int .i64] false (.tmp 148))), .mk (some 150) none (.k (.mov (.tmp 16))), .mk (some 151) none (.k (.cmp .eql .i64 (.tmp 149) (.tmp 150)))]) (.cond (.tmp 151) (.ref 12) .skip))) (.ref 13)
def T21n15 : XC := .seq (.seq (.ops [.mk (some 139) none (.k (.mov (.tmp 20))), .mk (some 140) none (.k (.mov (.tmp 19))), .mk (some 141) none (.k (.lenS (.tmp 140))), .mk (some 142) none (.k (.cmp .lss .i64 (.tmp 139) (.tmp 141)))]) (.cond (.tmp 142) .skip (.exit 10))) (.ref 14)
def T21n16 : XC := .seq (.ops [.mk (some 20) none (.k (.mov (.const (.int .i64 0))))]) (.blk 10 (.loop (.ref 15)))
def T21n17 : XC := .ops [.mk (some 129) none (.k (.mov (.tmp 18))), .mk (some 130) none (.k (.arith .add .i64 (.tmp 129) (.const (.int .i64 1)))), .mk (some 18) none (.k (.mov (.tmp 130)))]
def T21n18 : XC := .seq (.blk 9 (.seq (.ops [.mk (some 131) none (.k (.mov (.tmp 8))), .mk (some 132) none (.k (.mov (.tmp 2))), .mk (some 133) none (.k (.mov (.tmp 18))), .mk (some 134) none (.k (.idx 1 (.tmp 132) (.tmp 133))), .mk (some 135) none (.k (.load [.int .i64] false (.tmp 134))), .mk (some 136) none (.k (.idx 11 (.tmp 131) (.tmp 135))), .mk (some 137) none (.k (.fld 8 (.tmp 136))), .mk (some 138) none (.k (.load [.slc] false (.tmp 137))), .mk (some 19) none (.k (.mov (.tmp 138)))]) (.ref 16))) (.ref 17)
def T21n19 : XC := .seq (.seq (.ops [.mk (some 126) none (.k (.mov (.tmp 18))), .mk (some 127) none (.k (.mov (.tmp 13))), .mk (some 128) none (.k (.cmp .lss .i64 (.tmp 126) (.tmp 127)))]) (.cond (.tmp 128) .skip (.exit 8))) (.ref 18)
def T21n20 : XC := .seq (.ops [.mk (some 6) none (.k (.mov (.const (.bool false)))), .mk (some 7) none (.k (.mov (.const (.int .i64 0))))]) .ret
def T21n21 : XC := .seq (.ops [.mk (some 157) none (.k (.mov (.tmp 17))), .mk (some 158) none (.k (.fld 7 (.tmp 14))), .mk (some 159) none (.k (.load [.slc] false (.tmp 158))), .mk (some 160) none (.k (.mov (.tmp 15))), .mk (some 161) none (.k (.idx 2 (.tmp 159) (.tmp 160))), .mk (some 162) none (.k (.fld 1 (.tmp 161))), .mk (some 163) none (.k (.load [.int .u64] false (.tmp 162))), .mk (some 164) none (.k (.cmp .neq .u64 (.tmp 157) (.tmp 163)))]) (.cond (.tmp 164) (.ref 20) .skip)
def T21n22 : XC := .seq (.seq (.ops [.mk (some 18) none (.k (.mov (.const (.int .i64 0))))]) (.blk 8 (.loop (.ref 19)))) (.ref 21)
def T21n23 : XC := .seq (.seq (.ops [.mk (some 118) none (.k (.mov (.tmp 16))), .mk (some 119) none (.k (.mov (.tmp 1))), .mk (some 120) none (.k (.lenS (.tmp 119))), .mk (some 121) none (.k (.cmp .lss .i64 (.tmp 118) (.tmp 120)))]) (.cond (.tmp 121) (.ref 11) .skip)) (.ref 22)
def T21n24 : XC := .seq (.ops [.mk (some 17) none (.k (.mov (.const (.int .u64 0))))]) (.ref 23)
def T21n25 : XC := .ops [.mk (some 110) none (.k (.mov (.tmp 15))), .mk (some 111) none (.k (.arith .add .i64 (.tmp 110) (.const (.int .i64 1)))), .mk (some 15) none (.k (.mov (.tmp 111)))]
def T21n26 : XC := .seq (.blk 7 (.seq (.ops [.mk (some 112) none (.k (.fld 7 (.tmp 14))), .mk (some 113) none (.k (.load [.slc] false (.tmp 112))), .mk (some 114) none (.k (.mov (.tmp 15))), .mk (some 115) none (.k (.idx 2 (.tmp 113) (.tmp 114))), .mk (some 116) none (.k (.fld 0 (.tmp 115))), .mk (some 117) none (.k (.load [.int .i64] false (.tmp 116))), .mk (some 16) none (.k (.mov (.tmp 117)))]) (.ref 24))) (.ref 25)
def T21n27 : XC := .seq (.seq (.ops [.mk (some 105) none (.k (.mov (.tmp 15))), .mk (some 106) none (.k (.fld 7 (.tmp 14))), .mk (some 107) none (.k (.load [.slc] false (.tmp 106))), .mk (some 108) none (.k (.lenS (.tmp 107))), .mk (some 109) none (.k (.cmp .lss .i64 (.tmp 105) (.tmp 108)))]) (.cond (.tmp 109) .skip (.exit 6))) (.ref 26)
def T21n28 : XC := .seq (.ops [.mk (some 15) none (.k (.mov (.const (.int .i64 0))))]) (.blk 6 (.loop (.ref 27)))
def T21n29 : XC := .ops [.mk (some 96) none (.k (.mov (.tmp 13))), .mk (some 97) none (.k (.arith .add .i64 (.tmp 96) (.const (.int .i64 1)))), .mk (some 13) none (.k (.mov (.tmp 97)))]
def T21n30 : XC := .seq (.blk 5 (.seq (.ops [.mk (some 98) none (.k (.mov (.tmp 8))), .mk (some 99) none (.k (.mov (.tmp 2))), .mk (some 100) none (.k (.mov (.tmp 13))), .mk (some 101) none (.k (.idx 1 (.tmp 99) (.tmp 100))), .mk (some 102) none (.k (.load [.int .i64] false (.tmp 101))), .mk (some 103) none (.k (.idx 11 (.tmp 98) (.tmp 102))), .mk (some 104) none (.k (.load [.int .i64, .int .i64, .int .i64, .int .i64, .int .i64, .int .i64, .int .i64, .slc, .slc, .bool, .int .i64] true (.tmp 103))), .mk (some 14) none (.k (.alloc 75 [.int .i64 0, .int .i64 0, .int .i64 0, .int .i64 0, .int .i64 0, .int .i64 0, .int .i64 0, .slice none 0 0, .slice none 0 0, .bool false, .int .i64 0])), .mk none none (.k (.store 11 (.tmp 14) (.tmp 104)))]) (.ref 28))) (.ref 29)
def T21n31 : XC := .seq (.seq (.ops [.mk (some 92) none (.k (.mov (.tmp 13))), .mk (some 93) none (.k (.mov (.tmp 2))), .mk (some 94) none (.k (.lenS (.tmp 93))), .mk (some 95) none (.k (.cmp .lss .i64 (.tmp 92) (.tmp 94)))]) (.cond (.tmp 95) .skip (.exit 4))) (.ref 30)
def T21n32 : XC := .seq (.ops [.mk (some 6) none (.k (.mov (.const (.bool true)))), .mk (some 7) none (.k (.mov (.const (.int .i64 0))))]) .ret
def T21n33 : XC := .seq (.seq (.ops [.mk (some 13) none (.k (.mov (.const (.int .i64 0))))]) (.blk 4 (.loop (.ref 31)))) (.ref 32)
def T21n34 : XC := .seq (.seq (.ops [.mk (some 12) none (.k (.mov (.const (.int .i64 0))))]) (.blk 2 (.loop (.ref 10)))) (.ref 33)
def T21n35 : XC := .seq (.ops [.mk (some 54) none (.k (.mov (.tmp 8))), .mk (some 55) none (.k (.lenS (.tmp 54))), .mk (some 56) none (.k (.mkslc 4 1 1 [.bool false] (.tmp 55) (.tmp 55))), .mk (some 11) none (.k (.mov (.tmp 56)))]) (.ref 34)
def T21n36 : XC := .seq (.seq (.ops [.mk (some 49) none (.k (.mov (.tmp 2))), .mk (some 50) none (.k (.lenS (.tmp 49))), .mk (some 51) none (.k (.mov (.tmp 8))), .mk (some 52) none (.k (.lenS (.tmp 51))), .mk (some 53) none (.k (.cmp .neq .i64 (.tmp 50) (.tmp 52)))]) (.cond (.tmp 53) (.ref 5) .skip)) (.ref 35)
def T21n37 : XC := .seq (.seq (.ops [.mk (some 10) none (.k (.mov (.const (.int .i64 0))))]) (.blk 0 (.loop (.ref 4)))) (.ref 36)
def T21n38 : XC := .seq (.seq (.ops [.mk (some 26) none (.k (.mov (.tmp 9))), .mk (some 27) none (.k (.cmp .neq .i64 (.tmp 26) (.const (.int .i64 0))))]) (.cond (.tmp 27) (.ref 0) .skip)) (.ref 37)
def T21n39 : XC := .seq (.ops [.mk (some 22) none (.k (.mov (.tmp 0))), .mk (some 23) none (.call 33 [.tmp 22]), .mk (some 21) none (.k (.mov (.tmp 23))), .mk (some 24) none (.k (.ext (.tmp 21) 0)), .mk (some 25) none (.k (.ext (.tmp 21) 1)), .mk (some 8) none (.k (.mov (.tmp 24))), .mk (some 9) none (.k (.mov (.tmp 25)))]) (.ref 38)
def T21 : Nat → XC
 | 0 => T21n0
 | 1 => T21n1
 | 2 => T21n2
 | 3 => T21n3
 | 4 => T21n4
 | 5 => T21n5
 | 6 => T21n6
 | 7 => T21n7
 | 8 => T21n8
 | 9 => T21n9
 | 10 => T21n10
 | 11 => T21n11
 | 12 => T21n12
 | 13 => T21n13
 | 14 => T21n14
 | 15 => T21n15
 | 16 => T21n16
 | 17 => T21n17
 | 18 => T21n18
 | 19 => T21n19
 | 20 => T21n20
 | 21 => T21n21
 | 22 => T21n22
 | 23 => T21n23
 | 24 => T21n24
 | 25 => T21n25
 | 26 => T21n26
 | 27 => T21n27
 | 28 => T21n28
 | 29 => T21n29
 | 30 => T21n30
 | 31 => T21n31
 | 32 => T21n32
 | 33 => T21n33
 | 34 => T21n34
 | 35 => T21n35
 | 36 => T21n36
 | 37 => T21n37
 | 38 => T21n38
 | 39 => T21n39
 | _ => .skip
theorem t21n0 : T21 0 = T21n0 := rfl
theorem t21n1 : T21 1 = T21n1 := rfl
theorem t21n2 : T21 2 = T21n2 := rfl
theorem t21n3 : T21 3 = T21n3 := rfl
theorem t21n4 : T21 4 = T21n4 := rfl
theorem t21n5 : T21 5 = T21n5 := rfl
theorem t21n6 : T21 6 = T21n6 := rfl
theorem t21n7 : T21 7 = T21n7 := rfl
theorem t21n8 : T21 8 = T21n8 := rfl
theorem t21n9 : T21 9 = T21n9 := rfl
theorem t21n10 : T21 10 = T21n10 := rfl
theorem t21n11 : T21 11 = T21n11 := rfl
theorem t21n12 : T21 12 = T21n12 := rfl
theorem t21n13 : T21 13 = T21n13 := rfl
theorem t21n14 : T21 14 = T21n14 := rfl
theorem t21n15 : T21 15 = T21n15 := rfl
theorem t21n16 : T21 16 = T21n16 := rfl
theorem t21n17 : T21 17 = T21n17 := rfl
theorem t21n18 : T21 18 = T21n18 := rfl
theorem t21n19 : T21 19 = T21n19 := rfl
theorem t21n20 : T21 20 = T21n20 := rfl
theorem t21n21 : T21 21 = T21n21 := rfl
theorem t21n22 : T21 22 = T21n22 := rfl
theorem t21n23 : T21 23 = T21n23 := rfl
theorem t21n24 : T21 24 = T21n24 := rfl
theorem t21n25 : T21 25 = T21n25 := rfl
theorem t21n26 : T21 26 = T21n26 := rfl
theorem t21n27 : T21 27 = T21n27 := rfl
theorem t21n28 : T21 28 = T21n28 := rfl
theorem t21n29 : T21 29 = T21n29 := rfl
theorem t21n30 : T21 30 = T21n30 := rfl
theorem t21n31 : T21 31 = T21n31 := rfl
theorem t21n32 : T21 32 = T21n32 := rfl
theorem t21n33 : T21 33 = T21n33 := rfl
theorem t21n34 : T21 34 = T21n34 := rfl
theorem t21n35 : T21 35 = T21n35 := rfl
theorem t21n36 : T21 36 = T21n36 := rfl
theorem t21n37 : T21 37 = T21n37 := rfl
theorem t21n38 : T21 38 = T21n38 := rfl
theorem t21n39 : T21 39 = T21n39 := rfl
def X21 : XC := .seq (.ops [.mk (some 6) none (.k (.mov (.const (.bool false)))), .mk (some 7) none (.k (.mov (.const (.int .i64 0))))]) (.ref 39)
abbrev K21 : List Nat := [0, 1, 2, 6, 7, 8, 9, 10, 11, 12, 13, 14, 15, 16, 17, 18, 19, 20, 27, 32, 48, 53, 60, 85, 95, 109, 121, 128, 142, 151, 164]
theorem n21 : Try.f21.ntmps = 165 := by kernel_rfl
theorem r21 : resT Try.f21.results.toList = some [6, 7] := by kernel_rfl
theorem x21 : cmpF Try.prog Try.f21 = some (expand T21 41 X21) := by kernel_rfl
def T6n0 : XC := .seq (.ops [.mk (some 6) none (.k (.mov (.const (.bool true))))]) .ret
def T6n1 : XC := .seq (.ops [.mk (some 6) none (.k (.mov (.const (.bool false))))]) .ret
def T6n2 : XC := .seq (.ops [.mk (some 6) none (.k (.mov (.const (.bool false))))]) .ret
def T6n3 : XC := .ops [.mk (some 86) none (.k (.mov (.tmp 17))), .mk (some 87) none (.k (.arith .add .i64 (.tmp 86) (.const (.int .i64 1)))), .mk (some 17) none (.k (.mov (.tmp 87)))]
def T6n4 : XC := .seq (.blk 1 (.seq (.ops [.mk (some 88) none (.k (.mov (.tmp 8))), .mk (some 89) none (.k (.mov (.tmp 17))), .mk (some 90) none (.k (.idx 2 (.tmp 88) (.tmp 89))), .mk (some 91) none (.k (.load [.int .i64, .int .i64] true (.tmp 90))), .mk (some 92) none (.k (.mov (.tmp 11))), .mk (some 93) none (.k (.mov (.tmp 17))), .mk (some 94) none (.k (.idx 2 (.tmp 92) (.tmp 93))), .mk (some 95) none (.k (.load [.int .i64, .int .i64] true (.tmp 94))), .mk (some 96) none (.k (.eqa true [.int .i64, .int .i64] (.tmp 91) (.tmp 95)))]) (.cond (.tmp 96) (.ref 2) .skip))) (.ref 3)
def T6n5 : XC := .seq (.seq (.ops [.mk (some 82) none (.k (.mov (.tmp 17))), .mk (some 83) none (.k (.mov (.tmp 8))), .mk (some 84) none (.k (.lenS (.tmp 83))), .mk (some 85) none (.k (.cmp .lss .i64 (.tmp 82) (.tmp 84)))]) (.cond (.tmp 85) .skip (.exit 0))) (.ref 4)
def T6n6 : XC := .seq (.ops [.mk (some 6) none (.k (.mov (.const (.bool true))))]) .ret
def T6n7 : XC := .seq (.seq (.ops [.mk (some 17) none (.k (.mov (.const (.int .i64 0))))]) (.blk 0 (.loop (.ref 5)))) (.ref 6)
def T6n8 : XC := .seq (.seq (.ops [.mk (some 57) none (.k (.mov (.tmp 7))), .mk (some 58) none (.k (.mov (.tmp 10))), .mk (some 59) none (.k (.cmp .neq .i64 (.tmp 57) (.tmp 58))), .mk (some 60) none (.k (.mov (.tmp 59))), .mk (some 61) (some (60, false)) (.k (.mov (.tmp 9))), .mk (some 62) (some (60, false)) (.k (.mov (.tmp 12))), .mk (some 63) (some (60, false)) (.k (.cmp .neq .i64 (.tmp 61) (.tmp 62))), .mk (some 64) none (.k (.pick (.tmp 60) (.const (.bool true)) (.tmp 63))), .mk (some 65) none (.k (.mov (.tmp 64))), .mk (some 66) (some (65, false)) (.k (.mov (.tmp 8))), .mk (some 67) (some (65, false)) (.k (.lenS (.tmp 66))), .mk (some 68) (some (65, false)) (.k (.mov (.tmp 11))), .mk (some 69) (some (65, false)) (.k (.lenS (.tmp 68))), .mk (some 70) (some (65, false)) (.k (.cmp .neq .i64 (.tmp 67) (.tmp 69))), .mk (some 71) none (.k (.pick (.tmp 65) (.const (.bool true)) (.tmp 70))), .mk (some 72) none (.k (.mov (.tmp 71))), .mk (some 73) (some (72, false)) (.k (.mov (.tmp 13))), .mk (some 74) (some (72, false)) (.k (.mov (.tmp 15))), .mk (some 75) (some (72, false)) (.k (.eqb true (.tmp 73) (.tmp 74))), .mk (some 76) none (.k (.pick (.tmp 72) (.const (.bool true)) (.tmp 75))), .mk (some 77) none (.k (.mov (.tmp 76))), .mk (some 78) (some (77, false)) (.k (.mov (.tmp 14))), .mk (some 79) (some (77, false)) (.k (.mov (.tmp 16))), .mk (some 80) (some (77, false)) (.k (.cmp .neq .i64 (.tmp 78) (.tmp 79))), .mk (some 81) none (.k (.pick (.tmp 77) (.const (.bool true)) (.tmp 80)))]) (.cond (.tmp 81) (.ref 1) .skip)) (.ref 7)
def T6n9 : XC := .seq (.ops [.mk (some 51) none (.k (.mov (.tmp 0))), .mk (some 52) none (.k (.mov (.tmp 1))), .mk (some 53) none (.k (.mov (.tmp 2))), .mk (some 54) none (.call 21 [.tmp 51, .tmp 52, .tmp 53]), .mk (some 50) none (.k (.mov (.tmp 54))), .mk (some 55) none (.k (.ext (.tmp 50) 0)), .mk (some 56) none (.k (.ext (.tmp 50) 1)), .mk (some 15) none (.k (.mov (.tmp 55))), .mk (some 16) none (.k (.mov (.tmp 56)))]) (.ref 8)
def T6n10 : XC := .seq (.ops [.mk (some 44) none (.k (.mov (.tmp 0))), .mk (some 45) none (.k (.mov (.tmp 1))), .mk (some 46) none (.k (.mov (.tmp 2))), .mk (some 47) none (.call 20 [.tmp 44, .tmp 45, .tmp 46]), .mk (some 43) none (.k (.mov (.tmp 47))), .mk (some 48) none (.k (.ext (.tmp 43) 0)), .mk (some 49) none (.k (.ext (.tmp 43) 1)), .mk (some 13) none (.k (.mov (.tmp 48))), .mk (some 14) none (.k (.mov (.tmp 49)))]) (.ref 9)
def T6n11 : XC := .seq (.ops [.mk (some 38) none (.k (.mov (.tmp 0))), .mk (some 39) none (.call 19 [.tmp 38]), .mk (some 37) none (.k (.mov (.tmp 39))), .mk (some 40) none (.k (.ext (.tmp 37) 0)), .mk (some 41) none (.k (.ext (.tmp 37) 1)), .mk (some 42) none (.k (.ext (.tmp 37) 2)), .mk (some 10) none (.k (.mov (.tmp 40))), .mk (some 11) none (.k (.mov (.tmp 41))), .mk (some 12) none (.k (.mov (.tmp 42)))]) (.ref 10)
def T6n12 : XC := .seq (.ops [.mk (some 32) none (.k (.mov (.tmp 0))), .mk (some 33) none (.call 18 [.tmp 32]), .mk (some 31) none (.k (.mov (.tmp 33))), .mk (some 34) none (.k (.ext (.tmp 31) 0)), .mk (some 35) none (.k (.ext (.tmp 31) 1)), .mk (some 36) none (.k (.ext (.tmp 31) 2)), .mk (some 7) none (.k (.mov (.tmp 34))), .mk (some 8) none (.k (.mov (.tmp 35))), .mk (some 9) none (.k (.mov (.tmp 36)))]) (.ref 11)
def T6n13 : XC := .seq (.seq (.ops [.mk (some 18) none (.k (.mov (.tmp 0))), .mk (some 19) none (.k (.lenS (.tmp 18))), .mk (some 20) none (.k (.cmp .gtr .i64 (.tmp 19) (.const (.int .i64 300)))), .mk (some 21) none (.k (.mov (.tmp 20))), .mk (some 22) (some (21, false)) (.k (.mov (.tmp 1))), .mk (some 23) (some (21, false)) (.k (.lenS (.tmp 22))), .mk (some 24) (some (21, false)) (.k (.cmp .gtr .i64 (.tmp 23) (.const (.int .i64 1000)))), .mk (some 25) none (.k (.pick (.tmp 21) (.const (.bool true)) (.tmp 24))), .mk (some 26) none (.k (.mov (.tmp 25))), .mk (some 27) (some (26, false)) (.k (.mov (.tmp 2))), .mk (some 28) (some (26, false)) (.k (.lenS (.tmp 27))), .mk (some 29) (some (26, false)) (.k (.cmp .gtr .i64 (.tmp 28) (.const (.int .i64 1000)))), .mk (some 30) none (.k (.pick (.tmp 26) (.const (.bool true)) (.tmp 29)))]) (.cond (.tmp 30) (.ref 0) .skip)) (.ref 12)
def T6 : Nat → XC
 | 0 => T6n0
 | 1 => T6n1
 | 2 => T6n2
 | 3 => T6n3
 | 4 => T6n4
 | 5 => T6n5
 | 6 => T6n6
 | 7 => T6n7
 | 8 => T6n8
 | 9 => T6n9
 | 10 => T6n10
 | 11 => T6n11
 | 12 => T6n12
 | 13 => T6n13
 | _ => .skip
theorem t6n0 : T6 0 = T6n0 := rfl
theorem t6n1 : T6 1 = T6n1 := rfl
theorem t6n2 : T6 2 = T6n2 := rfl
theorem t6n3 : T6 3 = T6n3 := rfl
theorem t6n4 : T6 4 = T6n4 := rfl
theorem t6n5 : T6 5 = T6n5 := rfl
theorem t6n6 : T6 6 = T6n6 := rfl
theorem t6n7 : T6 7 = T6n7 := rfl
theorem t6n8 : T6 8 = T6n8 := rfl
theorem t6n9 : T6 9 = T6n9 := rfl
theorem t6n10 : T6 10 = T6n10 := rfl
theorem t6n11 : T6 11 = T6n11 := rfl
theorem t6n12 : T6 12 = T6n12 := rfl
theorem t6n13 : T6 13 = T6n13 := rfl
def X6 : XC := .seq (.ops [.mk (some 6) none (.k (.mov (.const (.bool false))))]) (.ref 13)
abbrev K6 : List Nat := [0, 1, 2, 6, 7, 8, 9, 10, 11, 12, 13, 14, 15, 16, 17, 30, 81, 85, 96]
theorem n6 : Try.f6.ntmps = 97 := by kernel_rfl
theorem r6 : resT Try.f6.results.toList = some [6] := by kernel_rfl
theorem x6 : cmpF Try.prog Try.f6 = some (expand T6 15 X6) := by kernel_rfl
end Go.Proofs.Ytbkpiljencaoeaa
