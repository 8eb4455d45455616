/- Printed by program: the small code of functions, and that it is theirs. -/
import Derived.Test.YtbkpiljencaoeaaSxStill
import Derived.Test.YtbkpiljencaoeaaProg
import Derived.KernelRfl
set_option linter.unusedSimpArgs false
set_option linter.unusedVariables false
set_option linter.unnecessarySimpa false
namespace Go.Proofs.Ytbkpiljencaoeaa
open Go Go.Sx
set_option maxRecDepth 100000
def T24n0 : XC := .seq (.ops [.mk (some 4) none (.k (.mov (.const (.pointer none)))), .mk (some 5) none (.k (.mov (.const (.int .i64 2))))]) .ret
def T24n1 : XC := .seq (.ops [.mk (some 4) none (.k (.mov (.const (.pointer none)))), .mk (some 5) none (.k (.mov (.const (.int .i64 2))))]) .ret
def T24n2 : XC := .ops [.mk (some 52) none (.k (.mov (.tmp 6))), .mk (some 53) none (.k (.nilc (.tmp 52))), .mk (some 54) none (.k (.fld 1 (.tmp 53))), .mk (some 55) none (.k (.load [.map] false (.tmp 54))), .mk (some 56) none (.k (.idxA 2 1 (.tmp 8) (.const (.int .i64 0)))), .mk (some 57) none (.k (.load [.int .i64] false (.tmp 56))), .mk (some 58) none (.k (.mov (.tmp 6))), .mk (some 59) none (.k (.nilc (.tmp 58))), .mk (some 60) none (.k (.fld 1 (.tmp 59))), .mk (some 61) none (.k (.load [.map] false (.tmp 60))), .mk (some 62) none (.k (.idxA 2 1 (.tmp 8) (.const (.int .i64 0)))), .mk (some 63) none (.k (.load [.int .i64] false (.tmp 62))), .mk (some 64) none (.k (.lkup (.int .i64) (.slice none 0 0) false (.tmp 61) (.tmp 63))), .mk (some 65) none (.k (.idxA 2 1 (.tmp 8) (.const (.int .i64 1)))), .mk (some 66) none (.k (.load [.int .i64] false (.tmp 65))), .mk (some 67) none (.k (.buildS 3 1 1 [.int .i64 0] [(0, .tmp 66)])), .mk (some 68) none (.k (.app 3 1 8 (.tmp 64) (.tmp 67))), .mk none none (.still 57 (.load [.int .i64] false (.tmp 56))), .mk none none (.still 55 (.load [.map] false (.tmp 54))), .mk none none (.k (.mupd (.int .i64) (.tmp 55) (.tmp 57) (.tmp 68)))]
def T24n3 : XC := .seq (.seq (.ops [.mk (some 32) none (.k (.idxA 2 1 (.tmp 8) (.const (.int .i64 0)))), .mk (some 33) none (.k (.load [.int .i64] false (.tmp 32))), .mk (some 34) none (.k (.cmp .lss .i64 (.tmp 33) (.const (.int .i64 0)))), .mk (some 35) none (.k (.mov (.tmp 34))), .mk (some 36) (some (35, false)) (.k (.idxA 2 1 (.tmp 8) (.const (.int .i64 0)))), .mk (some 37) (some (35, false)) (.k (.load [.int .i64] false (.tmp 36))), .mk (some 38) (some (35, false)) (.k (.mov (.tmp 0))), .mk (some 39) (some (35, false)) (.k (.cmp .geq .i64 (.tmp 37) (.tmp 38))), .mk (some 40) none (.k (.pick (.tmp 35) (.const (.bool true)) (.tmp 39))), .mk (some 41) none (.k (.mov (.tmp 40))), .mk (some 42) (some (41, false)) (.k (.idxA 2 1 (.tmp 8) (.const (.int .i64 1)))), .mk (some 43) (some (41, false)) (.k (.load [.int .i64] false (.tmp 42))), .mk (some 44) (some (41, false)) (.k (.cmp .lss .i64 (.tmp 43) (.const (.int .i64 0)))), .mk (some 45) none (.k (.pick (.tmp 41) (.const (.bool true)) (.tmp 44))), .mk (some 46) none (.k (.mov (.tmp 45))), .mk (some 47) (some (46, false)) (.k (.idxA 2 1 (.tmp 8) (.const (.int .i64 1)))), .mk (some 48) (some (46, false)) (.k (.load [.int .i64] false (.tmp 47))), .mk (some 49) (some (46, false)) (.k (.mov (.tmp 0))), .mk (some 50) (some (46, false)) (.k (.cmp .geq .i64 (.tmp 48) (.tmp 49))), .mk (some 51) none (.k (.pick (.tmp 46) (.const (.bool true)) (.tmp 50)))]) (.cond (.tmp 51) (.ref 1) .skip)) (.ref 2)
def T24n4 : XC := .seq (.blk 1 (.seq (.ops [.mk (some 30) none (.k (.idx 2 (.tmp 26) (.tmp 28))), .mk (some 31) none (.k (.load [.int .i64, .int .i64] true (.tmp 30))), .mk (some 8) none (.k (.alloc 28 [.int .i64 0, .int .i64 0])), .mk none none (.k (.store 2 (.tmp 8) (.tmp 31)))]) (.ref 3))) (.ops [.mk (some 69) none (.k (.arith .add .i64 (.tmp 28) (.const (.int .i64 1)))), .mk (some 28) none (.k (.mov (.tmp 69)))])
def T24n5 : XC := .seq (.cond (.tmp 29) .skip (.exit 0)) (.ref 4)
def T24n6 : XC := .seq (.ops [.mk (some 29) none (.k (.cmp .lss .i64 (.tmp 28) (.tmp 27)))]) (.ref 5)
def T24n7 : XC := .ops [.mk (some 82) none (.k (.mov (.tmp 6))), .mk (some 83) none (.k (.nilc (.tmp 82))), .mk (some 84) none (.k (.fld 1 (.tmp 83))), .mk (some 85) none (.k (.load [.map] false (.tmp 84))), .mk (some 86) none (.k (.mov (.tmp 9))), .mk (some 87) none (.k (.mov (.tmp 10))), .mk (some 88) none (.call 45 [.tmp 87]), .mk none none (.still 85 (.load [.map] false (.tmp 84))), .mk none none (.k (.mupd (.int .i64) (.tmp 85) (.tmp 86) (.tmp 88)))]
def T24n8 : XC := .seq (.ops [.mk (some 80) none (.k (.mov (.tmp 10))), .mk (some 81) none (.call 44 [.tmp 80])]) (.ref 7)
def T24n9 : XC := .blk 3 (.seq (.ops [.mk (some 77) none (.k (.entM (.tmp 74))), .mk (some 78) none (.k (.ext (.tmp 77) 0)), .mk (some 79) none (.k (.ext (.tmp 77) 1)), .mk (some 9) none (.k (.mov (.tmp 78))), .mk (some 10) none (.k (.mov (.tmp 79)))]) (.ref 8))
def T24n10 : XC := .seq (.cond (.tmp 76) .skip (.exit 2)) (.ref 9)
def T24n11 : XC := .seq (.ops [.mk (some 75) none (.k (.nxtM (.tmp 74))), .mk (some 76) none (.k (.ext (.tmp 75) 0))]) (.ref 10)
def T24n12 : XC := .seq (.ops [.mk (some 89) none (.k (.mov (.tmp 6))), .mk (some 4) none (.k (.mov (.tmp 89))), .mk (some 5) none (.k (.mov (.const (.int .i64 0))))]) .ret
def T24n13 : XC := .seq (.seq (.ops [.mk (some 70) none (.k (.mov (.tmp 6))), .mk (some 71) none (.k (.nilc (.tmp 70))), .mk (some 72) none (.k (.fld 1 (.tmp 71))), .mk (some 73) none (.k (.load [.map] false (.tmp 72))), .mk (some 74) none (.k (.rngM (.tmp 73)))]) (.blk 2 (.loop (.ref 11)))) (.ref 12)
def T24n14 : XC := .seq (.seq (.ops [.mk (some 26) none (.k (.mov (.tmp 1))), .mk (some 27) none (.k (.lenS (.tmp 26))), .mk (some 28) none (.k (.mov (.const (.int .i64 0))))]) (.blk 0 (.loop (.ref 6)))) (.ref 13)
def T24n15 : XC := .seq (.ops [.mk (some 22) none (.k (.mov (.tmp 0))), .mk (some 23) none (.k .mkmap), .mk (some 24) none (.k (.build [.int .i64 0, .map none] [(0, 1, .tmp 22), (1, 1, .tmp 23)])), .mk (some 25) none (.k (.box 67 2 (.tmp 24))), .mk (some 6) none (.k (.mov (.tmp 25)))]) (.ref 14)
def T24n16 : XC := .seq (.seq (.ops [.mk (some 11) none (.k (.mov (.tmp 0))), .mk (some 12) none (.k (.cmp .lss .i64 (.tmp 11) (.const (.int .i64 0)))), .mk (some 13) none (.k (.mov (.tmp 12))), .mk (some 14) (some (13, false)) (.k (.mov (.tmp 0))), .mk (some 15) (some (13, false)) (.k (.cmp .gtr .i64 (.tmp 14) (.const (.int .i64 500)))), .mk (some 16) none (.k (.pick (.tmp 13) (.const (.bool true)) (.tmp 15))), .mk (some 17) none (.k (.mov (.tmp 16))), .mk (some 18) (some (17, false)) (.k (.mov (.tmp 1))), .mk (some 19) (some (17, false)) (.k (.lenS (.tmp 18))), .mk (some 20) (some (17, false)) (.k (.cmp .gtr .i64 (.tmp 19) (.const (.int .i64 20000)))), .mk (some 21) none (.k (.pick (.tmp 17) (.const (.bool true)) (.tmp 20)))]) (.cond (.tmp 21) (.ref 0) .skip)) (.ref 15)
def T24 : Nat → XC
 | 0 => T24n0
 | 1 => T24n1
 | 2 => T24n2
 | 3 => T24n3
 | 4 => T24n4
 | 5 => T24n5
 | 6 => T24n6
 | 7 => T24n7
 | 8 => T24n8
 | 9 => T24n9
 | 10 => T24n10
 | 11 => T24n11
 | 12 => T24n12
 | 13 => T24n13
 | 14 => T24n14
 | 15 => T24n15
 | 16 => T24n16
 | _ => .skip
theorem t24n0 : T24 0 = T24n0 := rfl
theorem t24n1 : T24 1 = T24n1 := rfl
theorem t24n2 : T24 2 = T24n2 := rfl
theorem t24n3 : T24 3 = T24n3 := rfl
theorem t24n4 : T24 4 = T24n4 := rfl
theorem t24n5 : T24 5 = T24n5 := rfl
theorem t24n6 : T24 6 = T24n6 := rfl
theorem t24n7 : T24 7 = T24n7 := rfl
theorem t24n8 : T24 8 = T24n8 := rfl
theorem t24n9 : T24 9 = T24n9 := rfl
theorem t24n10 : T24 10 = T24n10 := rfl
theorem t24n11 : T24 11 = T24n11 := rfl
theorem t24n12 : T24 12 = T24n12 := rfl
theorem t24n13 : T24 13 = T24n13 := rfl
theorem t24n14 : T24 14 = T24n14 := rfl
theorem t24n15 : T24 15 = T24n15 := rfl
theorem t24n16 : T24 16 = T24n16 := rfl
def X24 : XC := .seq (.ops [.mk (some 4) none (.k (.mov (.const (.pointer none)))), .mk (some 5) none (.k (.mov (.const (.int .i64 0))))]) (.ref 16)
abbrev K24 : List Nat := [0, 1, 4, 5, 6, 8, 9, 10, 21, 26, 27, 28, 29, 51, 74, 76]
theorem n24 : Try.f24.ntmps = 90 := by kernel_rfl
theorem r24 : resT Try.f24.results.toList = some [4, 5] := by kernel_rfl
theorem x24 : cmpF Try.prog Try.f24 = some (expand T24 18 X24) := by kernel_rfl
def T25n0 : XC := .seq (.ops [.mk (some 3) none (.k (.mkfn (.func 46) [] [.tmp 1])), .mk (some 2) none (.k (.mov (.tmp 3)))]) .ret
def T25 : Nat → XC
 | 0 => T25n0
 | _ => .skip
theorem t25n0 : T25 0 = T25n0 := rfl
def X25 : XC := .seq (.ops [.mk (some 1) none (.k (.box 57 1 (.tmp 0))), .mk (some 2) none (.k (.mov (.const .nilFunc)))]) (.ref 0)
abbrev K25 : List Nat := [0, 1, 2]
theorem n25 : Try.f25.ntmps = 4 := by kernel_rfl
theorem r25 : resT Try.f25.results.toList = some [2] := by kernel_rfl
theorem x25 : cmpF Try.prog Try.f25 = some (expand T25 2 X25) := by kernel_rfl
def T46n0 : XC := .ops [.mk (some 31) none (.k (.mov (.tmp 3))), .mk (some 32) none (.k (.mov (.tmp 7))), .mk (some 33) none (.k (.idx 1 (.tmp 31) (.tmp 32))), .mk (some 34) none (.k (.load [.int .i64] false (.tmp 33))), .mk (some 35) none (.k (.arith .add .i64 (.tmp 34) (.const (.int .i64 1)))), .mk (some 36) none (.k (.idx 1 (.tmp 31) (.tmp 32))), .mk none none (.k (.store 1 (.tmp 36) (.tmp 35)))]
def T46n1 : XC := .seq (.blk 3 (.seq (.ops [.mk (some 29) none (.k (.idx 1 (.tmp 25) (.tmp 27))), .mk (some 30) none (.k (.load [.int .i64] false (.tmp 29))), .mk (some 7) none (.k (.mov (.tmp 30)))]) (.ref 0))) (.ops [.mk (some 37) none (.k (.arith .add .i64 (.tmp 27) (.const (.int .i64 1)))), .mk (some 27) none (.k (.mov (.tmp 37)))])
def T46n2 : XC := .seq (.cond (.tmp 28) .skip (.exit 2)) (.ref 1)
def T46n3 : XC := .seq (.ops [.mk (some 28) none (.k (.cmp .lss .i64 (.tmp 27) (.tmp 26)))]) (.ref 2)
def T46n4 : XC := .seq (.ops [.mk (some 25) none (.k (.mov (.tmp 5))), .mk (some 26) none (.k (.lenS (.tmp 25))), .mk (some 27) none (.k (.mov (.const (.int .i64 0))))]) (.blk 2 (.loop (.ref 3)))
def T46n5 : XC := .blk 1 (.seq (.ops [.mk (some 23) none (.k (.entM (.tmp 20))), .mk (some 24) none (.k (.ext (.tmp 23) 1)), .mk (some 5) none (.k (.mov (.tmp 24)))]) (.ref 4))
def T46n6 : XC := .seq (.cond (.tmp 22) .skip (.exit 0)) (.ref 5)
def T46n7 : XC := .seq (.ops [.mk (some 21) none (.k (.nxtM (.tmp 20))), .mk (some 22) none (.k (.ext (.tmp 21) 0))]) (.ref 6)
def T46n8 : XC := .ops [.mk (some 62) none (.k (.mov (.tmp 3))), .mk (some 63) none (.k (.mov (.tmp 10))), .mk (some 64) none (.k (.idx 1 (.tmp 62) (.tmp 63))), .mk (some 65) none (.k (.load [.int .i64] false (.tmp 64))), .mk (some 66) none (.k (.arith .sub .i64 (.tmp 65) (.const (.int .i64 1)))), .mk (some 67) none (.k (.idx 1 (.tmp 62) (.tmp 63))), .mk none none (.k (.store 1 (.tmp 67) (.tmp 66)))]
def T46n9 : XC := .seq (.blk 7 (.seq (.ops [.mk (some 60) none (.k (.idx 1 (.tmp 56) (.tmp 58))), .mk (some 61) none (.k (.load [.int .i64] false (.tmp 60))), .mk (some 10) none (.k (.mov (.tmp 61)))]) (.ref 8))) (.ops [.mk (some 68) none (.k (.arith .add .i64 (.tmp 58) (.const (.int .i64 1)))), .mk (some 58) none (.k (.mov (.tmp 68)))])
def T46n10 : XC := .seq (.cond (.tmp 59) .skip (.exit 6)) (.ref 9)
def T46n11 : XC := .seq (.ops [.mk (some 59) none (.k (.cmp .lss .i64 (.tmp 58) (.tmp 57)))]) (.ref 10)
def T46n12 : XC := .seq (.ops [.mk (some 51) none (.k (.load [.ptr] false (.tmp 1))), .mk (some 52) none (.k (.nilc (.tmp 51))), .mk (some 53) none (.k (.fld 1 (.tmp 52))), .mk (some 54) none (.k (.load [.map] false (.tmp 53))), .mk (some 55) none (.k (.mov (.tmp 8))), .mk (some 56) none (.k (.lkup (.int .i64) (.slice none 0 0) false (.tmp 54) (.tmp 55))), .mk (some 57) none (.k (.lenS (.tmp 56))), .mk (some 58) none (.k (.mov (.const (.int .i64 0))))]) (.blk 6 (.loop (.ref 11)))
def T46n13 : XC := .seq (.ops [.mk (some 48) none (.k (.mov (.tmp 3))), .mk (some 49) none (.k (.mov (.tmp 8))), .mk (some 50) none (.k (.idx 1 (.tmp 48) (.tmp 49))), .mk none none (.k (.store 1 (.tmp 50) (.const (.int .i64 (-1)))))]) (.ref 12)
def T46n14 : XC := .seq (.seq (.ops [.mk (some 40) none (.k (.mov (.tmp 8))), .mk (some 41) none (.k (.cmp .lss .i64 (.tmp 40) (.const (.int .i64 0)))), .mk (some 42) none (.k (.mov (.tmp 41))), .mk (some 43) (some (42, false)) (.k (.mov (.tmp 0))), .mk (some 44) (some (42, false)) (.k (.mov (.tmp 8))), .mk (some 45) (some (42, false)) (.callv (.tmp 43) [.tmp 44]), .mk (some 46) (some (42, false)) (.k (.not (.tmp 45))), .mk (some 47) none (.k (.pick (.tmp 42) (.const (.bool true)) (.tmp 46)))]) (.cond (.tmp 47) .ret .skip)) (.ref 13)
def T46n15 : XC := .blk 5 (.seq (.ops [.mk (some 38) none (.k (.mov (.tmp 3))), .mk (some 39) none (.call 27 [.tmp 38, .const (.int .i64 0)]), .mk (some 8) none (.k (.mov (.tmp 39)))]) (.ref 14))
def T46n16 : XC := .seq (.seq (.ops [.mk (some 16) none (.k (.load [.ptr] false (.tmp 1))), .mk (some 17) none (.k (.nilc (.tmp 16))), .mk (some 18) none (.k (.fld 1 (.tmp 17))), .mk (some 19) none (.k (.load [.map] false (.tmp 18))), .mk (some 20) none (.k (.rngM (.tmp 19)))]) (.blk 0 (.loop (.ref 7)))) (.blk 4 (.loop (.ref 15)))
def T46 : Nat → XC
 | 0 => T46n0
 | 1 => T46n1
 | 2 => T46n2
 | 3 => T46n3
 | 4 => T46n4
 | 5 => T46n5
 | 6 => T46n6
 | 7 => T46n7
 | 8 => T46n8
 | 9 => T46n9
 | 10 => T46n10
 | 11 => T46n11
 | 12 => T46n12
 | 13 => T46n13
 | 14 => T46n14
 | 15 => T46n15
 | 16 => T46n16
 | _ => .skip
theorem t46n0 : T46 0 = T46n0 := rfl
theorem t46n1 : T46 1 = T46n1 := rfl
theorem t46n2 : T46 2 = T46n2 := rfl
theorem t46n3 : T46 3 = T46n3 := rfl
theorem t46n4 : T46 4 = T46n4 := rfl
theorem t46n5 : T46 5 = T46n5 := rfl
theorem t46n6 : T46 6 = T46n6 := rfl
theorem t46n7 : T46 7 = T46n7 := rfl
theorem t46n8 : T46 8 = T46n8 := rfl
theorem t46n9 : T46 9 = T46n9 := rfl
theorem t46n10 : T46 10 = T46n10 := rfl
theorem t46n11 : T46 11 = T46n11 := rfl
theorem t46n12 : T46 12 = T46n12 := rfl
theorem t46n13 : T46 13 = T46n13 := rfl
theorem t46n14 : T46 14 = T46n14 := rfl
theorem t46n15 : T46 15 = T46n15 := rfl
theorem t46n16 : T46 16 = T46n16 := rfl
def X46 : XC := .seq (.ops [.mk (some 11) none (.k (.load [.ptr] false (.tmp 1))), .mk (some 12) none (.k (.nilc (.tmp 11))), .mk (some 13) none (.k (.fld 0 (.tmp 12))), .mk (some 14) none (.k (.load [.int .i64] false (.tmp 13))), .mk (some 15) none (.k (.mkslc 3 1 8 [.int .i64 0] (.tmp 14) (.tmp 14))), .mk (some 3) none (.k (.mov (.tmp 15)))]) (.ref 16)
abbrev K46 : List Nat := [0, 1, 3, 5, 7, 8, 10, 20, 22, 25, 26, 27, 28, 47, 56, 57, 58, 59]
theorem n46 : Try.f46.ntmps = 69 := by kernel_rfl
theorem r46 : resT Try.f46.results.toList = some [] := by kernel_rfl
theorem x46 : cmpF Try.prog Try.f46 = some (expand T46 18 X46) := by kernel_rfl
def T10n0 : XC := .seq (.ops [.mk (some 18) none (.k (.mov (.tmp 7))), .mk (some 4) none (.k (.mov (.const (.slice none 0 0)))), .mk (some 5) none (.k (.mov (.tmp 18)))]) .ret
def T10n1 : XC := .blk 1 (.ops [.mk (some 22) none (.k (.load [.slc] false (.tmp 8))), .mk (some 23) none (.k (.mov (.tmp 9))), .mk (some 24) none (.k (.buildS 3 1 1 [.int .i64 0] [(0, .tmp 23)])), .mk (some 25) none (.k (.app 3 1 8 (.tmp 22) (.tmp 24))), .mk none none (.k (.store 1 (.tmp 8) (.tmp 25)))])
def T10n2 : XC := .blk 0 (.rng (.tmp 20) [21] (.ops [.mk (some 9) none (.k (.mov (.tmp 21)))]) (.ref 1))
def T10n3 : XC := .seq (.ops [.mk (some 4) none (.k (.mov (.const (.slice none 0 0)))), .mk (some 5) none (.k (.mov (.const (.int .i64 250))))]) .ret
def T10n4 : XC := .seq (.ops [.mk (some 30) none (.k (.load [.slc] false (.tmp 8))), .mk (some 4) none (.k (.mov (.tmp 30))), .mk (some 5) none (.k (.mov (.const (.int .i64 0))))]) .ret
def T10n5 : XC := .seq (.seq (.ops [.mk (some 26) none (.k (.load [.slc] false (.tmp 8))), .mk (some 27) none (.k (.lenS (.tmp 26))), .mk (some 28) none (.k (.mov (.tmp 0))), .mk (some 29) none (.k (.cmp .lss .i64 (.tmp 27) (.tmp 28)))]) (.cond (.tmp 29) (.ref 3) .skip)) (.ref 4)
def T10n6 : XC := .seq (.seq (.ops [.mk (some 19) none (.k (.mov (.tmp 6))), .mk (some 20) none (.call 25 [.tmp 19])]) (.ref 2)) (.ref 5)
def T10n7 : XC := .seq (.ops [.mk (some 8) none (.k (.alloc 24 [.slice none 0 0]))]) (.ref 6)
def T10n8 : XC := .seq (.seq (.ops [.mk (some 16) none (.k (.mov (.tmp 7))), .mk (some 17) none (.k (.cmp .neq .i64 (.tmp 16) (.const (.int .i64 0))))]) (.cond (.tmp 17) (.ref 0) .skip)) (.ref 7)
def T10n9 : XC := .seq (.ops [.mk (some 11) none (.k (.mov (.tmp 0))), .mk (some 12) none (.k (.mov (.tmp 1))), .mk (some 13) none (.call 24 [.tmp 11, .tmp 12]), .mk (some 10) none (.k (.mov (.tmp 13))), .mk (some 14) none (.k (.ext (.tmp 10) 0)), .mk (some 15) none (.k (.ext (.tmp 10) 1)), .mk (some 6) none (.k (.mov (.tmp 14))), .mk (some 7) none (.k (.mov (.tmp 15)))]) (.ref 8)
def T10 : Nat → XC
 | 0 => T10n0
 | 1 => T10n1
 | 2 => T10n2
 | 3 => T10n3
 | 4 => T10n4
 | 5 => T10n5
 | 6 => T10n6
 | 7 => T10n7
 | 8 => T10n8
 | 9 => T10n9
 | _ => .skip
theorem t10n0 : T10 0 = T10n0 := rfl
theorem t10n1 : T10 1 = T10n1 := rfl
theorem t10n2 : T10 2 = T10n2 := rfl
theorem t10n3 : T10 3 = T10n3 := rfl
theorem t10n4 : T10 4 = T10n4 := rfl
theorem t10n5 : T10 5 = T10n5 := rfl
theorem t10n6 : T10 6 = T10n6 := rfl
theorem t10n7 : T10 7 = T10n7 := rfl
theorem t10n8 : T10 8 = T10n8 := rfl
theorem t10n9 : T10 9 = T10n9 := rfl
def X10 : XC := .seq (.ops [.mk (some 4) none (.k (.mov (.const (.slice none 0 0)))), .mk (some 5) none (.k (.mov (.const (.int .i64 0))))]) (.ref 9)
abbrev K10 : List Nat := [0, 1, 4, 5, 6, 7, 8, 9, 17, 20, 21, 29]
theorem n10 : Try.f10.ntmps = 31 := by kernel_rfl
theorem r10 : resT Try.f10.results.toList = some [4, 5] := by kernel_rfl
theorem x10 : cmpF Try.prog Try.f10 = some (expand T10 11 X10) := by kernel_rfl
def T26n0 : XC := .ops [.mk (some 49) none (.k (.mov (.tmp 6))), .mk (some 50) none (.k (.mov (.tmp 0))), .mk (some 51) none (.k (.nilc (.tmp 50))), .mk (some 52) none (.k (.fld 1 (.tmp 51))), .mk (some 53) none (.k (.load [.map] false (.tmp 52))), .mk (some 54) none (.k (.mov (.tmp 7))), .mk (some 55) none (.k (.lkup (.int .i64) (.slice none 0 0) false (.tmp 53) (.tmp 54))), .mk (some 56) none (.k (.app 3 1 8 (.tmp 49) (.tmp 55))), .mk (some 6) none (.k (.mov (.tmp 56)))]
def T26n1 : XC := .seq (.ops [.mk (some 46) none (.k (.mov (.tmp 5))), .mk (some 47) none (.k (.mov (.tmp 7))), .mk (some 48) none (.k (.idx 1 (.tmp 46) (.tmp 47))), .mk none none (.k (.store 1 (.tmp 48) (.const (.bool true))))]) (.ref 0)
def T26n2 : XC := .seq (.ops [.mk (some 41) none (.k (.mov (.tmp 5))), .mk (some 42) none (.k (.mov (.tmp 7))), .mk (some 43) none (.k (.idx 1 (.tmp 41) (.tmp 42))), .mk (some 44) none (.k (.load [.bool] false (.tmp 43))), .mk (some 45) none (.k (.not (.tmp 44)))]) (.cond (.tmp 45) (.ref 1) .skip)
def T26n3 : XC := .seq (.ops [.mk (some 36) none (.k (.mov (.tmp 6))), .mk (some 37) none (.k (.mov (.tmp 6))), .mk (some 38) none (.k (.lenS (.tmp 37))), .mk (some 39) none (.k (.arith .sub .i64 (.tmp 38) (.const (.int .i64 1)))), .mk (some 40) none (.k (.sub 1 (.tmp 36) none (some (.tmp 39)))), .mk (some 6) none (.k (.mov (.tmp 40)))]) (.ref 2)
def T26n4 : XC := .blk 3 (.seq (.ops [.mk (some 30) none (.k (.mov (.tmp 6))), .mk (some 31) none (.k (.mov (.tmp 6))), .mk (some 32) none (.k (.lenS (.tmp 31))), .mk (some 33) none (.k (.arith .sub .i64 (.tmp 32) (.const (.int .i64 1)))), .mk (some 34) none (.k (.idx 1 (.tmp 30) (.tmp 33))), .mk (some 35) none (.k (.load [.int .i64] false (.tmp 34))), .mk (some 7) none (.k (.mov (.tmp 35)))]) (.ref 3))
def T26n5 : XC := .seq (.seq (.ops [.mk (some 27) none (.k (.mov (.tmp 6))), .mk (some 28) none (.k (.lenS (.tmp 27))), .mk (some 29) none (.k (.cmp .gtr .i64 (.tmp 28) (.const (.int .i64 0))))]) (.cond (.tmp 29) .skip (.exit 2))) (.ref 4)
def T26n6 : XC := .ops [.mk (some 57) none (.k (.mov (.tmp 3))), .mk (some 58) none (.k (.mov (.tmp 5))), .mk (some 59) none (.k (.buildS 38 1 1 [.slice none 0 0] [(0, .tmp 58)])), .mk (some 60) none (.k (.app 38 1 24 (.tmp 57) (.tmp 59))), .mk (some 3) none (.k (.mov (.tmp 60)))]
def T26n7 : XC := .seq (.blk 2 (.loop (.ref 5))) (.ref 6)
def T26n8 : XC := .seq (.ops [.mk (some 20) none (.k (.mov (.tmp 0))), .mk (some 21) none (.k (.nilc (.tmp 20))), .mk (some 22) none (.k (.fld 1 (.tmp 21))), .mk (some 23) none (.k (.load [.map] false (.tmp 22))), .mk (some 24) none (.k (.mov (.tmp 4))), .mk (some 25) none (.k (.lkup (.int .i64) (.slice none 0 0) false (.tmp 23) (.tmp 24))), .mk (some 26) none (.call 47 [.tmp 25]), .mk (some 6) none (.k (.mov (.tmp 26)))]) (.ref 7)
def T26n9 : XC := .seq (.ops [.mk (some 15) none (.k (.mov (.tmp 0))), .mk (some 16) none (.k (.nilc (.tmp 15))), .mk (some 17) none (.k (.fld 0 (.tmp 16))), .mk (some 18) none (.k (.load [.int .i64] false (.tmp 17))), .mk (some 19) none (.k (.mkslc 4 1 1 [.bool false] (.tmp 18) (.tmp 18))), .mk (some 5) none (.k (.mov (.tmp 19)))]) (.ref 8)
def T26n10 : XC := .seq (.blk 1 (.seq (.ops [.mk (some 14) none (.k (.mov (.tmp 12))), .mk (some 4) none (.k (.mov (.tmp 14)))]) (.ref 9))) (.ops [.mk (some 61) none (.k (.arith .add .i64 (.tmp 12) (.const (.int .i64 1)))), .mk (some 12) none (.k (.mov (.tmp 61)))])
def T26n11 : XC := .seq (.cond (.tmp 13) .skip (.exit 0)) (.ref 10)
def T26n12 : XC := .seq (.ops [.mk (some 13) none (.k (.cmp .lss .i64 (.tmp 12) (.tmp 11)))]) (.ref 11)
def T26n13 : XC := .seq (.ops [.mk (some 62) none (.k (.mov (.tmp 3))), .mk (some 2) none (.k (.mov (.tmp 62)))]) .ret
def T26n14 : XC := .seq (.seq (.ops [.mk (some 8) none (.k (.mov (.tmp 0))), .mk (some 9) none (.k (.nilc (.tmp 8))), .mk (some 10) none (.k (.fld 0 (.tmp 9))), .mk (some 11) none (.k (.load [.int .i64] false (.tmp 10))), .mk (some 12) none (.k (.mov (.const (.int .i64 0))))]) (.blk 0 (.loop (.ref 12)))) (.ref 13)
def T26n15 : XC := .seq (.ops [.mk (some 3) none (.k (.mov (.const (.slice none 0 0))))]) (.ref 14)
def T26 : Nat → XC
 | 0 => T26n0
 | 1 => T26n1
 | 2 => T26n2
 | 3 => T26n3
 | 4 => T26n4
 | 5 => T26n5
 | 6 => T26n6
 | 7 => T26n7
 | 8 => T26n8
 | 9 => T26n9
 | 10 => T26n10
 | 11 => T26n11
 | 12 => T26n12
 | 13 => T26n13
 | 14 => T26n14
 | 15 => T26n15
 | _ => .skip
theorem t26n0 : T26 0 = T26n0 := rfl
theorem t26n1 : T26 1 = T26n1 := rfl
theorem t26n2 : T26 2 = T26n2 := rfl
theorem t26n3 : T26 3 = T26n3 := rfl
theorem t26n4 : T26 4 = T26n4 := rfl
theorem t26n5 : T26 5 = T26n5 := rfl
theorem t26n6 : T26 6 = T26n6 := rfl
theorem t26n7 : T26 7 = T26n7 := rfl
theorem t26n8 : T26 8 = T26n8 := rfl
theorem t26n9 : T26 9 = T26n9 := rfl
theorem t26n10 : T26 10 = T26n10 := rfl
theorem t26n11 : T26 11 = T26n11 := rfl
theorem t26n12 : T26 12 = T26n12 := rfl
theorem t26n13 : T26 13 = T26n13 := rfl
theorem t26n14 : T26 14 = T26n14 := rfl
theorem t26n15 : T26 15 = T26n15 := rfl
def X26 : XC := .seq (.ops [.mk (some 2) none (.k (.mov (.const (.slice none 0 0))))]) (.ref 15)
abbrev K26 : List Nat := [0, 2, 3, 4, 5, 6, 7, 11, 12, 13, 29, 45]
theorem n26 : Try.f26.ntmps = 63 := by kernel_rfl
theorem r26 : resT Try.f26.results.toList = some [2] := by kernel_rfl
theorem x26 : cmpF Try.prog Try.f26 = some (expand T26 17 X26) := by kernel_rfl
def T11n0 : XC := .seq (.ops [.mk (some 23) none (.k (.mov (.tmp 7))), .mk (some 4) none (.k (.mov (.const (.slice none 0 0)))), .mk (some 5) none (.k (.mov (.tmp 23)))]) .ret
def T11n1 : XC := .blk 1 (.ops [.mk (some 39) none (.k (.mov (.tmp 9))), .mk (some 40) none (.k (.arith .add .i64 (.tmp 39) (.const (.int .i64 1)))), .mk (some 9) none (.k (.mov (.tmp 40)))])
def T11n2 : XC := .seq (.seq (.ops [.mk (some 26) none (.k (.mov (.tmp 9))), .mk (some 27) none (.k (.mov (.tmp 0))), .mk (some 28) none (.k (.cmp .lss .i64 (.tmp 26) (.tmp 27))), .mk (some 29) none (.k (.mov (.tmp 28))), .mk (some 30) (some (29, true)) (.k (.mov (.tmp 8))), .mk (some 31) (some (29, true)) (.k (.mov (.tmp 9))), .mk (some 32) (some (29, true)) (.k (.idx 1 (.tmp 30) (.tmp 31))), .mk (some 33) (some (29, true)) (.k (.load [.slc] false (.tmp 32))), .mk (some 34) (some (29, true)) (.k (.mov (.tmp 9))), .mk (some 35) (some (29, true)) (.k (.idx 1 (.tmp 33) (.tmp 34))), .mk (some 36) (some (29, true)) (.k (.load [.bool] false (.tmp 35))), .mk (some 37) (some (29, true)) (.k (.not (.tmp 36))), .mk (some 38) none (.k (.pick (.tmp 29) (.tmp 37) (.const (.bool false))))]) (.cond (.tmp 38) .skip (.exit 0))) (.ref 1)
def T11n3 : XC := .seq (.ops [.mk (some 4) none (.k (.mov (.const (.slice none 0 0)))), .mk (some 5) none (.k (.mov (.const (.int .i64 0))))]) .ret
def T11n4 : XC := .seq (.ops [.mk (some 49) none (.k (.mov (.tmp 10))), .mk (some 50) none (.k (.mov (.tmp 11))), .mk (some 51) none (.k (.sub 1 (.tmp 49) (some (.tmp 50)) none)), .mk (some 10) none (.k (.mov (.tmp 51)))]) (.exit 2)
def T11n5 : XC := .seq (.ops [.mk (some 47) none (.k (.mov (.tmp 11))), .mk (some 48) none (.k (.cmp .geq .i64 (.tmp 47) (.const (.int .i64 0))))]) (.cond (.tmp 48) (.ref 4) .skip)
def T11n6 : XC := .seq (.ops [.mk (some 74) none (.k (.mov (.tmp 13))), .mk (some 9) none (.k (.mov (.tmp 74)))]) (.exit 3)
def T11n7 : XC := .seq (.ops [.mk (some 67) none (.k (.mov (.tmp 8))), .mk (some 68) none (.k (.mov (.tmp 13))), .mk (some 69) none (.k (.idx 1 (.tmp 67) (.tmp 68))), .mk (some 70) none (.k (.load [.slc] false (.tmp 69))), .mk (some 71) none (.k (.mov (.tmp 9))), .mk (some 72) none (.k (.idx 1 (.tmp 70) (.tmp 71))), .mk (some 73) none (.k (.load [.bool] false (.tmp 72)))]) (.cond (.tmp 73) (.ref 6) .skip)
def T11n8 : XC := .seq (.blk 5 (.seq (.ops [.mk (some 65) none (.k (.idx 1 (.tmp 61) (.tmp 63))), .mk (some 66) none (.k (.load [.int .i64] false (.tmp 65))), .mk (some 13) none (.k (.mov (.tmp 66)))]) (.ref 7))) (.ops [.mk (some 75) none (.k (.arith .add .i64 (.tmp 63) (.const (.int .i64 1)))), .mk (some 63) none (.k (.mov (.tmp 75)))])
def T11n9 : XC := .seq (.cond (.tmp 64) .skip (.exit 4)) (.ref 8)
def T11n10 : XC := .seq (.ops [.mk (some 64) none (.k (.cmp .lss .i64 (.tmp 63) (.tmp 62)))]) (.ref 9)
def T11n11 : XC := .seq (.ops [.mk (some 56) none (.k (.mov (.tmp 6))), .mk (some 57) none (.k (.nilc (.tmp 56))), .mk (some 58) none (.k (.fld 1 (.tmp 57))), .mk (some 59) none (.k (.load [.map] false (.tmp 58))), .mk (some 60) none (.k (.mov (.tmp 9))), .mk (some 61) none (.k (.lkup (.int .i64) (.slice none 0 0) false (.tmp 59) (.tmp 60))), .mk (some 62) none (.k (.lenS (.tmp 61))), .mk (some 63) none (.k (.mov (.const (.int .i64 0))))]) (.blk 4 (.loop (.ref 10)))
def T11n12 : XC := .seq (.ops [.mk (some 52) none (.k (.mov (.tmp 10))), .mk (some 53) none (.k (.mov (.tmp 9))), .mk (some 54) none (.k (.buildS 3 1 1 [.int .i64 0] [(0, .tmp 53)])), .mk (some 55) none (.k (.app 3 1 8 (.tmp 52) (.tmp 54))), .mk (some 10) none (.k (.mov (.tmp 55)))]) (.ref 11)
def T11n13 : XC := .blk 3 (.seq (.seq (.ops [.mk (some 44) none (.k (.mov (.tmp 10))), .mk (some 45) none (.k (.mov (.tmp 9))), .mk (some 46) none (.call 27 [.tmp 44, .tmp 45]), .mk (some 11) none (.k (.mov (.tmp 46)))]) (.ref 5)) (.ref 12))
def T11n14 : XC := .seq (.ops [.mk (some 80) none (.k (.mov (.tmp 10))), .mk (some 81) none (.k (.mov (.tmp 14))), .mk (some 82) none (.k (.sub 1 (.tmp 80) (some (.tmp 81)) none)), .mk (some 83) none (.k (.mov (.tmp 10))), .mk (some 84) none (.k (.mov (.tmp 14))), .mk (some 85) none (.k (.sub 1 (.tmp 83) none (some (.tmp 84)))), .mk (some 86) none (.k (.buildS 24 2 1 [.slice none 0 0] [(0, .tmp 82), (1, .tmp 85)])), .mk (some 87) none (.call 29 [.tmp 86]), .mk (some 4) none (.k (.mov (.tmp 87))), .mk (some 5) none (.k (.mov (.const (.int .i64 0))))]) .ret
def T11n15 : XC := .seq (.ops [.mk (some 76) none (.k (.mov (.tmp 10))), .mk (some 77) none (.k (.mov (.tmp 10))), .mk (some 78) none (.call 28 [.tmp 77]), .mk (some 79) none (.call 27 [.tmp 76, .tmp 78]), .mk (some 14) none (.k (.mov (.tmp 79)))]) (.ref 14)
def T11n16 : XC := .seq (.blk 2 (.loop (.ref 13))) (.ref 15)
def T11n17 : XC := .seq (.ops [.mk (some 10) none (.k (.mov (.const (.slice none 0 0))))]) (.seq (.lab) (.ref 16))
def T11n18 : XC := .seq (.seq (.ops [.mk (some 41) none (.k (.mov (.tmp 9))), .mk (some 42) none (.k (.mov (.tmp 0))), .mk (some 43) none (.k (.cmp .eql .i64 (.tmp 41) (.tmp 42)))]) (.cond (.tmp 43) (.ref 3) .skip)) (.ref 17)
def T11n19 : XC := .seq (.blk 0 (.loop (.ref 2))) (.ref 18)
def T11n20 : XC := .seq (.ops [.mk (some 9) none (.k (.mov (.const (.int .i64 0))))]) (.ref 19)
def T11n21 : XC := .seq (.ops [.mk (some 24) none (.k (.mov (.tmp 6))), .mk (some 25) none (.call 26 [.tmp 24]), .mk (some 8) none (.k (.mov (.tmp 25)))]) (.ref 20)
def T11n22 : XC := .seq (.seq (.ops [.mk (some 21) none (.k (.mov (.tmp 7))), .mk (some 22) none (.k (.cmp .neq .i64 (.tmp 21) (.const (.int .i64 0))))]) (.cond (.tmp 22) (.ref 0) .skip)) (.ref 21)
def T11n23 : XC := .scp (.seq (.ops [.mk (some 16) none (.k (.mov (.tmp 0))), .mk (some 17) none (.k (.mov (.tmp 1))), .mk (some 18) none (.call 24 [.tmp 16, .tmp 17]), .mk (some 15) none (.k (.mov (.tmp 18))), .mk (some 19) none (.k (.ext (.tmp 15) 0)), .mk (some 20) none (.k (.ext (.tmp 15) 1)), .mk (some 6) none (.k (.mov (.tmp 19))), .mk (some 7) none (.k (.mov (.tmp 20)))]) (.ref 22))
def T11 : Nat → XC
 | 0 => T11n0
 | 1 => T11n1
 | 2 => T11n2
 | 3 => T11n3
 | 4 => T11n4
 | 5 => T11n5
 | 6 => T11n6
 | 7 => T11n7
 | 8 => T11n8
 | 9 => T11n9
 | 10 => T11n10
 | 11 => T11n11
 | 12 => T11n12
 | 13 => T11n13
 | 14 => T11n14
 | 15 => T11n15
 | 16 => T11n16
 | 17 => T11n17
 | 18 => T11n18
 | 19 => T11n19
 | 20 => T11n20
 | 21 => T11n21
 | 22 => T11n22
 | 23 => T11n23
 | _ => .skip
theorem t11n0 : T11 0 = T11n0 := rfl
theorem t11n1 : T11 1 = T11n1 := rfl
theorem t11n2 : T11 2 = T11n2 := rfl
theorem t11n3 : T11 3 = T11n3 := rfl
theorem t11n4 : T11 4 = T11n4 := rfl
theorem t11n5 : T11 5 = T11n5 := rfl
theorem t11n6 : T11 6 = T11n6 := rfl
theorem t11n7 : T11 7 = T11n7 := rfl
theorem t11n8 : T11 8 = T11n8 := rfl
theorem t11n9 : T11 9 = T11n9 := rfl
theorem t11n10 : T11 10 = T11n10 := rfl
theorem t11n11 : T11 11 = T11n11 := rfl
theorem t11n12 : T11 12 = T11n12 := rfl
theorem t11n13 : T11 13 = T11n13 := rfl
theorem t11n14 : T11 14 = T11n14 := rfl
theorem t11n15 : T11 15 = T11n15 := rfl
theorem t11n16 : T11 16 = T11n16 := rfl
theorem t11n17 : T11 17 = T11n17 := rfl
theorem t11n18 : T11 18 = T11n18 := rfl
theorem t11n19 : T11 19 = T11n19 := rfl
theorem t11n20 : T11 20 = T11n20 := rfl
theorem t11n21 : T11 21 = T11n21 := rfl
theorem t11n22 : T11 22 = T11n22 := rfl
theorem t11n23 : T11 23 = T11n23 := rfl
def X11 : XC := .seq (.ops [.mk (some 4) none (.k (.mov (.const (.slice none 0 0)))), .mk (some 5) none (.k (.mov (.const (.int .i64 0))))]) (.ref 23)
abbrev K11 : List Nat := [0, 1, 4, 5, 6, 7, 8, 9, 10, 11, 13, 14, 22, 38, 43, 48, 61, 62, 63, 64, 73]
theorem n11 : Try.f11.ntmps = 88 := by kernel_rfl
theorem r11 : resT Try.f11.results.toList = some [4, 5] := by kernel_rfl
theorem x11 : cmpF Try.prog Try.f11 = some (expand T11 25 X11) := by kernel_rfl
def T27n0 : XC := .seq (.ops [.mk (some 17) none (.k (.mov (.tmp 5))), .mk (some 4) none (.k (.mov (.tmp 17)))]) .ret
def T27n1 : XC := .seq (.ops [.mk (some 11) none (.k (.mov (.tmp 1))), .mk (some 12) none (.k (.mov (.tmp 0))), .mk (some 13) none (.k (.mov (.tmp 5))), .mk (some 14) none (.k (.idx 1 (.tmp 12) (.tmp 13))), .mk (some 15) none (.k (.load [.int .i64] false (.tmp 14))), .mk (some 16) none (.k (.cmp .eql .i64 (.tmp 11) (.tmp 15)))]) (.cond (.tmp 16) (.ref 0) .skip)
def T27n2 : XC := .seq (.blk 1 (.seq (.ops [.mk (some 10) none (.k (.mov (.tmp 8))), .mk (some 5) none (.k (.mov (.tmp 10)))]) (.ref 1))) (.ops [.mk (some 18) none (.k (.arith .add .i64 (.tmp 8) (.const (.int .i64 1)))), .mk (some 8) none (.k (.mov (.tmp 18)))])
def T27n3 : XC := .seq (.cond (.tmp 9) .skip (.exit 0)) (.ref 2)
def T27n4 : XC := .seq (.ops [.mk (some 9) none (.k (.cmp .lss .i64 (.tmp 8) (.tmp 7)))]) (.ref 3)
def T27n5 : XC := .seq (.ops [.mk (some 4) none (.k (.mov (.const (.int .i64 (-1)))))]) .ret
def T27n6 : XC := .seq (.seq (.ops [.mk (some 6) none (.k (.mov (.tmp 0))), .mk (some 7) none (.k (.lenS (.tmp 6))), .mk (some 8) none (.k (.mov (.const (.int .i64 0))))]) (.blk 0 (.loop (.ref 4)))) (.ref 5)
def T27 : Nat → XC
 | 0 => T27n0
 | 1 => T27n1
 | 2 => T27n2
 | 3 => T27n3
 | 4 => T27n4
 | 5 => T27n5
 | 6 => T27n6
 | _ => .skip
theorem t27n0 : T27 0 = T27n0 := rfl
theorem t27n1 : T27 1 = T27n1 := rfl
theorem t27n2 : T27 2 = T27n2 := rfl
theorem t27n3 : T27 3 = T27n3 := rfl
theorem t27n4 : T27 4 = T27n4 := rfl
theorem t27n5 : T27 5 = T27n5 := rfl
theorem t27n6 : T27 6 = T27n6 := rfl
def X27 : XC := .seq (.ops [.mk (some 4) none (.k (.mov (.const (.int .i64 0))))]) (.ref 6)
abbrev K27 : List Nat := [0, 1, 4, 5, 7, 8, 9, 16]
theorem n27 : Try.f27.ntmps = 19 := by kernel_rfl
theorem r27 : resT Try.f27.results.toList = some [4] := by kernel_rfl
theorem x27 : cmpF Try.prog Try.f27 = some (expand T27 8 X27) := by kernel_rfl
def T28n0 : XC := .cond (.tmp 7) (.ops [.mk (some 8) none (.k (.mkif 9 (.const (.string (ByteArray.mk (Array.mk [UInt8.ofNat 115, UInt8.ofNat 108, UInt8.ofNat 105, UInt8.ofNat 99, UInt8.ofNat 101, UInt8.ofNat 115, UInt8.ofNat 46, UInt8.ofNat 77, UInt8.ofNat 105, UInt8.ofNat 110, UInt8.ofNat 58, UInt8.ofNat 32, UInt8.ofNat 101, UInt8.ofNat 109, UInt8.ofNat 112, UInt8.ofNat 116, UInt8.ofNat 121, UInt8.ofNat 32, UInt8.ofNat 108, UInt8.ofNat 105, UInt8.ofNat 115, UInt8.ofNat 116])))))), .mk none none (.k .dead)]) .skip
def T28n1 : XC := .ops [.mk (some 16) none (.k (.mov (.tmp 4))), .mk (some 17) none (.k (.arith .add .i64 (.tmp 16) (.const (.int .i64 1)))), .mk (some 4) none (.k (.mov (.tmp 17)))]
def T28n2 : XC := .seq (.blk 1 (.ops [.mk (some 18) none (.k (.mov (.tmp 3))), .mk (some 19) none (.k (.mov (.tmp 0))), .mk (some 20) none (.k (.mov (.tmp 4))), .mk (some 21) none (.k (.idx 1 (.tmp 19) (.tmp 20))), .mk (some 22) none (.k (.load [.int .i64] false (.tmp 21))), .mk (some 23) none (.k (.mm false .i64 (.tmp 18) (.tmp 22))), .mk (some 3) none (.k (.mov (.tmp 23)))])) (.ref 1)
def T28n3 : XC := .seq (.seq (.ops [.mk (some 12) none (.k (.mov (.tmp 4))), .mk (some 13) none (.k (.mov (.tmp 0))), .mk (some 14) none (.k (.lenS (.tmp 13))), .mk (some 15) none (.k (.cmp .lss .i64 (.tmp 12) (.tmp 14)))]) (.cond (.tmp 15) .skip (.exit 0))) (.ref 2)
def T28n4 : XC := .seq (.ops [.mk (some 24) none (.k (.mov (.tmp 3))), .mk (some 2) none (.k (.mov (.tmp 24)))]) .ret
def T28n5 : XC := .seq (.seq (.ops [.mk (some 4) none (.k (.mov (.const (.int .i64 1))))]) (.blk 0 (.loop (.ref 3)))) (.ref 4)
def T28n6 : XC := .seq (.ops [.mk (some 9) none (.k (.mov (.tmp 0))), .mk (some 10) none (.k (.idx 1 (.tmp 9) (.const (.int .i64 0)))), .mk (some 11) none (.k (.load [.int .i64] false (.tmp 10))), .mk (some 3) none (.k (.mov (.tmp 11)))]) (.ref 5)
def T28n7 : XC := .seq (.seq (.ops [.mk (some 5) none (.k (.mov (.tmp 0))), .mk (some 6) none (.k (.lenS (.tmp 5))), .mk (some 7) none (.k (.cmp .lss .i64 (.tmp 6) (.const (.int .i64 1))))]) (.ref 0)) (.ref 6)
def T28 : Nat → XC
 | 0 => T28n0
 | 1 => T28n1
 | 2 => T28n2
 | 3 => T28n3
 | 4 => T28n4
 | 5 => T28n5
 | 6 => T28n6
 | 7 => T28n7
 | _ => .skip
theorem t28n0 : T28 0 = T28n0 := rfl
theorem t28n1 : T28 1 = T28n1 := rfl
theorem t28n2 : T28 2 = T28n2 := rfl
theorem t28n3 : T28 3 = T28n3 := rfl
theorem t28n4 : T28 4 = T28n4 := rfl
theorem t28n5 : T28 5 = T28n5 := rfl
theorem t28n6 : T28 6 = T28n6 := rfl
theorem t28n7 : T28 7 = T28n7 := rfl
def X28 : XC := .seq (.ops [.mk (some 2) none (.k (.mov (.const (.int .i64 0))))]) (.ref 7)
abbrev K28 : List Nat := [0, 2, 3, 4, 7, 15]
theorem n28 : Try.f28.ntmps = 25 := by kernel_rfl
theorem r28 : resT Try.f28.results.toList = some [2] := by kernel_rfl
theorem x28 : cmpF Try.prog Try.f28 = some (expand T28 9 X28) := by kernel_rfl
def T29n0 : XC := .cond (.tmp 20) (.ops [.mk (some 21) none (.k (.mkif 9 (.const (.string (ByteArray.mk (Array.mk [UInt8.ofNat 108, UInt8.ofNat 101, UInt8.ofNat 110, UInt8.ofNat 32, UInt8.ofNat 111, UInt8.ofNat 117, UInt8.ofNat 116, UInt8.ofNat 32, UInt8.ofNat 111, UInt8.ofNat 102, UInt8.ofNat 32, UInt8.ofNat 114, UInt8.ofNat 97, UInt8.ofNat 110, UInt8.ofNat 103, UInt8.ofNat 101])))))), .mk none none (.k .dead)]) .skip
def T29n1 : XC := .seq (.ops [.mk (some 19) none (.k (.mov (.tmp 3))), .mk (some 20) none (.k (.cmp .lss .i64 (.tmp 19) (.const (.int .i64 0))))]) (.ref 0)
def T29n2 : XC := .seq (.ops [.mk (some 15) none (.k (.mov (.tmp 3))), .mk (some 16) none (.k (.mov (.tmp 5))), .mk (some 17) none (.k (.lenS (.tmp 16))), .mk (some 18) none (.k (.arith .add .i64 (.tmp 15) (.tmp 17))), .mk (some 3) none (.k (.mov (.tmp 18)))]) (.ref 1)
def T29n3 : XC := .seq (.blk 1 (.seq (.ops [.mk (some 13) none (.k (.idx 1 (.tmp 9) (.tmp 11))), .mk (some 14) none (.k (.load [.slc] false (.tmp 13))), .mk (some 5) none (.k (.mov (.tmp 14)))]) (.ref 2))) (.ops [.mk (some 22) none (.k (.arith .add .i64 (.tmp 11) (.const (.int .i64 1)))), .mk (some 11) none (.k (.mov (.tmp 22)))])
def T29n4 : XC := .seq (.cond (.tmp 12) .skip (.exit 0)) (.ref 3)
def T29n5 : XC := .seq (.ops [.mk (some 12) none (.k (.cmp .lss .i64 (.tmp 11) (.tmp 10)))]) (.ref 4)
def T29n6 : XC := .ops [.mk (some 31) none (.k (.mov (.tmp 6))), .mk (some 32) none (.k (.mov (.tmp 8))), .mk (some 33) none (.k (.app 3 1 8 (.tmp 31) (.tmp 32))), .mk (some 6) none (.k (.mov (.tmp 33)))]
def T29n7 : XC := .seq (.blk 3 (.seq (.ops [.mk (some 29) none (.k (.idx 1 (.tmp 25) (.tmp 27))), .mk (some 30) none (.k (.load [.slc] false (.tmp 29))), .mk (some 8) none (.k (.mov (.tmp 30)))]) (.ref 6))) (.ops [.mk (some 34) none (.k (.arith .add .i64 (.tmp 27) (.const (.int .i64 1)))), .mk (some 27) none (.k (.mov (.tmp 34)))])
def T29n8 : XC := .seq (.cond (.tmp 28) .skip (.exit 2)) (.ref 7)
def T29n9 : XC := .seq (.ops [.mk (some 28) none (.k (.cmp .lss .i64 (.tmp 27) (.tmp 26)))]) (.ref 8)
def T29n10 : XC := .seq (.ops [.mk (some 35) none (.k (.mov (.tmp 6))), .mk (some 2) none (.k (.mov (.tmp 35)))]) .ret
def T29n11 : XC := .seq (.seq (.ops [.mk (some 25) none (.k (.mov (.tmp 0))), .mk (some 26) none (.k (.lenS (.tmp 25))), .mk (some 27) none (.k (.mov (.const (.int .i64 0))))]) (.blk 2 (.loop (.ref 9)))) (.ref 10)
def T29n12 : XC := .seq (.ops [.mk (some 23) none (.k (.mov (.tmp 3))), .mk (some 24) none (.call 48 [.const (.slice none 0 0), .tmp 23]), .mk (some 6) none (.k (.mov (.tmp 24)))]) (.ref 11)
def T29n13 : XC := .seq (.seq (.ops [.mk (some 9) none (.k (.mov (.tmp 0))), .mk (some 10) none (.k (.lenS (.tmp 9))), .mk (some 11) none (.k (.mov (.const (.int .i64 0))))]) (.blk 0 (.loop (.ref 5)))) (.ref 12)
def T29n14 : XC := .seq (.ops [.mk (some 3) none (.k (.mov (.const (.int .i64 0))))]) (.ref 13)
def T29 : Nat → XC
 | 0 => T29n0
 | 1 => T29n1
 | 2 => T29n2
 | 3 => T29n3
 | 4 => T29n4
 | 5 => T29n5
 | 6 => T29n6
 | 7 => T29n7
 | 8 => T29n8
 | 9 => T29n9
 | 10 => T29n10
 | 11 => T29n11
 | 12 => T29n12
 | 13 => T29n13
 | 14 => T29n14
 | _ => .skip
theorem t29n0 : T29 0 = T29n0 := rfl
theorem t29n1 : T29 1 = T29n1 := rfl
theorem t29n2 : T29 2 = T29n2 := rfl
theorem t29n3 : T29 3 = T29n3 := rfl
theorem t29n4 : T29 4 = T29n4 := rfl
theorem t29n5 : T29 5 = T29n5 := rfl
theorem t29n6 : T29 6 = T29n6 := rfl
theorem t29n7 : T29 7 = T29n7 := rfl
theorem t29n8 : T29 8 = T29n8 := rfl
theorem t29n9 : T29 9 = T29n9 := rfl
theorem t29n10 : T29 10 = T29n10 := rfl
theorem t29n11 : T29 11 = T29n11 := rfl
theorem t29n12 : T29 12 = T29n12 := rfl
theorem t29n13 : T29 13 = T29n13 := rfl
theorem t29n14 : T29 14 = T29n14 := rfl
def X29 : XC := .seq (.ops [.mk (some 2) none (.k (.mov (.const (.slice none 0 0))))]) (.ref 14)
abbrev K29 : List Nat := [0, 2, 3, 5, 6, 8, 9, 10, 11, 12, 20, 25, 26, 27, 28]
theorem n29 : Try.f29.ntmps = 36 := by kernel_rfl
theorem r29 : resT Try.f29.results.toList = some [2] := by kernel_rfl
theorem x29 : cmpF Try.prog Try.f29 = some (expand T29 16 X29) := by kernel_rfl
def T45n0 : XC := .seq (.ops [.mk (some 9) none (.k (.mov (.tmp 0))), .mk (some 2) none (.k (.mov (.tmp 9)))]) .ret
def T45n1 : XC := .ops [.mk (some 52) none (.k (.mov (.tmp 3))), .mk (some 53) none (.k (.arith .add .i64 (.tmp 52) (.const (.int .i64 1)))), .mk (some 3) none (.k (.mov (.tmp 53)))]
def T45n2 : XC := .seq (.ops [.mk (some 45) none (.k (.mov (.tmp 0))), .mk (some 46) none (.k (.mov (.tmp 3))), .mk (some 47) none (.k (.mov (.tmp 4))), .mk (some 48) none (.k (.mov (.tmp 5))), .mk (some 49) none (.k (.idx 1 (.tmp 47) (.tmp 48))), .mk (some 50) none (.k (.load [.int .i64] false (.tmp 49))), .mk (some 51) none (.k (.idx 1 (.tmp 45) (.tmp 46))), .mk none none (.k (.store 1 (.tmp 51) (.tmp 50)))]) (.ref 1)
def T45n3 : XC := .ops [.mk (some 33) none (.k (.mov (.tmp 5))), .mk (some 34) none (.k (.arith .add .i64 (.tmp 33) (.const (.int .i64 1)))), .mk (some 5) none (.k (.mov (.tmp 34)))]
def T45n4 : XC := .seq (.blk 3 (.seq (.ops [.mk (some 35) none (.k (.mov (.tmp 4))), .mk (some 36) none (.k (.mov (.tmp 5))), .mk (some 37) none (.k (.idx 1 (.tmp 35) (.tmp 36))), .mk (some 38) none (.k (.load [.int .i64] false (.tmp 37))), .mk (some 39) none (.k (.mov (.tmp 4))), .mk (some 40) none (.k (.mov (.tmp 5))), .mk (some 41) none (.k (.arith .sub .i64 (.tmp 40) (.const (.int .i64 1)))), .mk (some 42) none (.k (.idx 1 (.tmp 39) (.tmp 41))), .mk (some 43) none (.k (.load [.int .i64] false (.tmp 42))), .mk (some 44) none (.k (.cmp .neq .i64 (.tmp 38) (.tmp 43)))]) (.cond (.tmp 44) (.ref 2) .skip))) (.ref 3)
def T45n5 : XC := .seq (.seq (.ops [.mk (some 29) none (.k (.mov (.tmp 5))), .mk (some 30) none (.k (.mov (.tmp 4))), .mk (some 31) none (.k (.lenS (.tmp 30))), .mk (some 32) none (.k (.cmp .lss .i64 (.tmp 29) (.tmp 31)))]) (.cond (.tmp 32) .skip (.exit 2))) (.ref 4)
def T45n6 : XC := .seq (.ops [.mk (some 57) none (.k (.mov (.tmp 0))), .mk (some 58) none (.k (.mov (.tmp 3))), .mk (some 59) none (.k (.sub 1 (.tmp 57) none (some (.tmp 58)))), .mk (some 2) none (.k (.mov (.tmp 59)))]) .ret
def T45n7 : XC := .seq (.ops [.mk (some 54) none (.k (.mov (.tmp 0))), .mk (some 55) none (.k (.mov (.tmp 3))), .mk (some 56) none (.k (.sub 1 (.tmp 54) (some (.tmp 55)) none)), .mk none none (.k (.clr 1 [.int .i64 0] (.tmp 56)))]) (.ref 6)
def T45n8 : XC := .seq (.seq (.ops [.mk (some 5) none (.k (.mov (.const (.int .i64 1))))]) (.blk 2 (.loop (.ref 5)))) (.ref 7)
def T45n9 : XC := .seq (.ops [.mk (some 26) none (.k (.mov (.tmp 0))), .mk (some 27) none (.k (.mov (.tmp 3))), .mk (some 28) none (.k (.sub 1 (.tmp 26) (some (.tmp 27)) none)), .mk (some 4) none (.k (.mov (.tmp 28)))]) (.ref 8)
def T45n10 : XC := .ops [.mk (some 14) none (.k (.mov (.tmp 3))), .mk (some 15) none (.k (.arith .add .i64 (.tmp 14) (.const (.int .i64 1)))), .mk (some 3) none (.k (.mov (.tmp 15)))]
def T45n11 : XC := .seq (.blk 1 (.seq (.ops [.mk (some 16) none (.k (.mov (.tmp 0))), .mk (some 17) none (.k (.mov (.tmp 3))), .mk (some 18) none (.k (.idx 1 (.tmp 16) (.tmp 17))), .mk (some 19) none (.k (.load [.int .i64] false (.tmp 18))), .mk (some 20) none (.k (.mov (.tmp 0))), .mk (some 21) none (.k (.mov (.tmp 3))), .mk (some 22) none (.k (.arith .sub .i64 (.tmp 21) (.const (.int .i64 1)))), .mk (some 23) none (.k (.idx 1 (.tmp 20) (.tmp 22))), .mk (some 24) none (.k (.load [.int .i64] false (.tmp 23))), .mk (some 25) none (.k (.cmp .eql .i64 (.tmp 19) (.tmp 24)))]) (.cond (.tmp 25) (.ref 9) .skip))) (.ref 10)
def T45n12 : XC := .seq (.seq (.ops [.mk (some 10) none (.k (.mov (.tmp 3))), .mk (some 11) none (.k (.mov (.tmp 0))), .mk (some 12) none (.k (.lenS (.tmp 11))), .mk (some 13) none (.k (.cmp .lss .i64 (.tmp 10) (.tmp 12)))]) (.cond (.tmp 13) .skip (.exit 0))) (.ref 11)
def T45n13 : XC := .seq (.ops [.mk (some 60) none (.k (.mov (.tmp 0))), .mk (some 2) none (.k (.mov (.tmp 60)))]) .ret
def T45n14 : XC := .seq (.seq (.ops [.mk (some 3) none (.k (.mov (.const (.int .i64 1))))]) (.blk 0 (.loop (.ref 12)))) (.ref 13)
def T45n15 : XC := .seq (.seq (.ops [.mk (some 6) none (.k (.mov (.tmp 0))), .mk (some 7) none (.k (.lenS (.tmp 6))), .mk (some 8) none (.k (.cmp .lss .i64 (.tmp 7) (.const (.int .i64 2))))]) (.cond (.tmp 8) (.ref 0) .skip)) (.ref 14)
def T45 : Nat → XC
 | 0 => T45n0
 | 1 => T45n1
 | 2 => T45n2
 | 3 => T45n3
 | 4 => T45n4
 | 5 => T45n5
 | 6 => T45n6
 | 7 => T45n7
 | 8 => T45n8
 | 9 => T45n9
 | 10 => T45n10
 | 11 => T45n11
 | 12 => T45n12
 | 13 => T45n13
 | 14 => T45n14
 | 15 => T45n15
 | _ => .skip
theorem t45n0 : T45 0 = T45n0 := rfl
theorem t45n1 : T45 1 = T45n1 := rfl
theorem t45n2 : T45 2 = T45n2 := rfl
theorem t45n3 : T45 3 = T45n3 := rfl
theorem t45n4 : T45 4 = T45n4 := rfl
theorem t45n5 : T45 5 = T45n5 := rfl
theorem t45n6 : T45 6 = T45n6 := rfl
theorem t45n7 : T45 7 = T45n7 := rfl
theorem t45n8 : T45 8 = T45n8 := rfl
theorem t45n9 : T45 9 = T45n9 := rfl
theorem t45n10 : T45 10 = T45n10 := rfl
theorem t45n11 : T45 11 = T45n11 := rfl
theorem t45n12 : T45 12 = T45n12 := rfl
theorem t45n13 : T45 13 = T45n13 := rfl
theorem t45n14 : T45 14 = T45n14 := rfl
theorem t45n15 : T45 15 = T45n15 := rfl
def X45 : XC := .seq (.ops [.mk (some 2) none (.k (.mov (.const (.slice none 0 0))))]) (.ref 15)
abbrev K45 : List Nat := [0, 2, 3, 4, 5, 8, 13, 25, 32, 44]
theorem n45 : Try.f45.ntmps = 61 := by kernel_rfl
theorem r45 : resT Try.f45.results.toList = some [2] := by kernel_rfl
theorem x45 : cmpF Try.prog Try.f45 = some (expand T45 17 X45) := by kernel_rfl
def T47n0 : XC := .seq (.ops [.mk (some 2) none (.k (.mov (.const (.slice none 0 0))))]) .ret
def T47n1 : XC := .seq (.ops [.mk (some 5) none (.k (.buildS 3 0 1 [.int .i64 0] [])), .mk (some 6) none (.k (.mov (.tmp 0))), .mk (some 7) none (.k (.app 3 1 8 (.tmp 5) (.tmp 6))), .mk (some 2) none (.k (.mov (.tmp 7)))]) .ret
def T47n2 : XC := .seq (.seq (.ops [.mk (some 3) none (.k (.mov (.tmp 0))), .mk (some 4) none (.k (.isnil NK.s false (.tmp 3)))]) (.cond (.tmp 4) (.ref 0) .skip)) (.ref 1)
def T47 : Nat → XC
 | 0 => T47n0
 | 1 => T47n1
 | 2 => T47n2
 | _ => .skip
theorem t47n0 : T47 0 = T47n0 := rfl
theorem t47n1 : T47 1 = T47n1 := rfl
theorem t47n2 : T47 2 = T47n2 := rfl
def X47 : XC := .seq (.ops [.mk (some 2) none (.k (.mov (.const (.slice none 0 0))))]) (.ref 2)
abbrev K47 : List Nat := [0, 2, 4]
theorem n47 : Try.f47.ntmps = 8 := by kernel_rfl
theorem r47 : resT Try.f47.results.toList = some [2] := by kernel_rfl
theorem x47 : cmpF Try.prog Try.f47 = some (expand T47 4 X47) := by kernel_rfl
def T9n0 : XC := .seq (.ops [.mk (some 21) none (.k (.mov (.tmp 2))), .mk (some 22) none (.k (.cmp .eql .i64 (.tmp 21) (.const (.int .i64 0)))), .mk (some 23) none (.k (.mov (.tmp 22))), .mk (some 24) (some (23, true)) (.k (.mov (.tmp 1))), .mk (some 25) (some (23, true)) (.k (.lenS (.tmp 24))), .mk (some 26) (some (23, true)) (.k (.cmp .eql .i64 (.tmp 25) (.const (.int .i64 4)))), .mk (some 27) none (.k (.pick (.tmp 23) (.tmp 26) (.const (.bool false)))), .mk (some 28) none (.k (.mov (.tmp 27))), .mk (some 29) (some (28, true)) (.k (.mov (.tmp 1))), .mk (some 30) (some (28, true)) (.k (.idx 1 (.tmp 29) (.const (.int .i64 0)))), .mk (some 31) (some (28, true)) (.k (.load [.int .i64] false (.tmp 30))), .mk (some 32) (some (28, true)) (.k (.cmp .eql .i64 (.tmp 31) (.const (.int .i64 2)))), .mk (some 33) none (.k (.pick (.tmp 28) (.tmp 32) (.const (.bool false)))), .mk (some 34) none (.k (.mov (.tmp 33))), .mk (some 35) (some (34, true)) (.k (.mov (.tmp 1))), .mk (some 36) (some (34, true)) (.k (.idx 1 (.tmp 35) (.const (.int .i64 1)))), .mk (some 37) (some (34, true)) (.k (.load [.int .i64] false (.tmp 36))), .mk (some 38) (some (34, true)) (.k (.cmp .eql .i64 (.tmp 37) (.const (.int .i64 3)))), .mk (some 39) none (.k (.pick (.tmp 34) (.tmp 38) (.const (.bool false)))), .mk (some 40) none (.k (.mov (.tmp 39))), .mk (some 41) (some (40, true)) (.k (.mov (.tmp 1))), .mk (some 42) (some (40, true)) (.k (.idx 1 (.tmp 41) (.const (.int .i64 2)))), .mk (some 43) (some (40, true)) (.k (.load [.int .i64] false (.tmp 42))), .mk (some 44) (some (40, true)) (.k (.cmp .eql .i64 (.tmp 43) (.const (.int .i64 1)))), .mk (some 45) none (.k (.pick (.tmp 40) (.tmp 44) (.const (.bool false)))), .mk (some 46) none (.k (.mov (.tmp 45))), .mk (some 47) (some (46, true)) (.k (.mov (.tmp 1))), .mk (some 48) (some (46, true)) (.k (.idx 1 (.tmp 47) (.const (.int .i64 3)))), .mk (some 49) (some (46, true)) (.k (.load [.int .i64] false (.tmp 48))), .mk (some 50) (some (46, true)) (.k (.cmp .eql .i64 (.tmp 49) (.const (.int .i64 0)))), .mk (some 51) none (.k (.pick (.tmp 46) (.tmp 50) (.const (.bool false)))), .mk (some 52) none (.k (.mov (.tmp 51))), .mk (some 53) (some (52, true)) (.k (.mov (.tmp 4))), .mk (some 54) (some (52, true)) (.k (.cmp .eql .i64 (.tmp 53) (.const (.int .i64 0)))), .mk (some 55) none (.k (.pick (.tmp 52) (.tmp 54) (.const (.bool false)))), .mk (some 56) none (.k (.mov (.tmp 55))), .mk (some 57) (some (56, true)) (.k (.mov (.tmp 3))), .mk (some 58) (some (56, true)) (.k (.lenS (.tmp 57))), .mk (some 59) (some (56, true)) (.k (.cmp .eql .i64 (.tmp 58) (.const (.int .i64 3)))), .mk (some 60) none (.k (.pick (.tmp 56) (.tmp 59) (.const (.bool false)))), .mk (some 61) none (.k (.mov (.tmp 60))), .mk (some 62) (some (61, true)) (.k (.mov (.tmp 3))), .mk (some 63) (some (61, true)) (.k (.idx 1 (.tmp 62) (.const (.int .i64 0)))), .mk (some 64) (some (61, true)) (.k (.load [.int .i64] false (.tmp 63))), .mk (some 65) (some (61, true)) (.k (.cmp .eql .i64 (.tmp 64) (.const (.int .i64 0)))), .mk (some 66) none (.k (.pick (.tmp 61) (.tmp 65) (.const (.bool false)))), .mk (some 67) none (.k (.mov (.tmp 66))), .mk (some 68) (some (67, true)) (.k (.mov (.tmp 3))), .mk (some 69) (some (67, true)) (.k (.idx 1 (.tmp 68) (.const (.int .i64 1)))), .mk (some 70) (some (67, true)) (.k (.load [.int .i64] false (.tmp 69))), .mk (some 71) (some (67, true)) (.k (.cmp .eql .i64 (.tmp 70) (.const (.int .i64 2)))), .mk (some 72) none (.k (.pick (.tmp 67) (.tmp 71) (.const (.bool false)))), .mk (some 73) none (.k (.mov (.tmp 72))), .mk (some 74) (some (73, true)) (.k (.mov (.tmp 3))), .mk (some 75) (some (73, true)) (.k (.idx 1 (.tmp 74) (.const (.int .i64 2)))), .mk (some 76) (some (73, true)) (.k (.load [.int .i64] false (.tmp 75))), .mk (some 77) (some (73, true)) (.k (.cmp .eql .i64 (.tmp 76) (.const (.int .i64 3)))), .mk (some 78) none (.k (.pick (.tmp 73) (.tmp 77) (.const (.bool false)))), .mk (some 0) none (.k (.mov (.tmp 78)))]) .ret
def T9n1 : XC := .seq (.ops [.mk (some 13) none (.k (.build [.int .i64 0, .int .i64 0] [(0, 1, .const (.int .i64 0)), (1, 1, .const (.int .i64 2))])), .mk (some 14) none (.k (.build [.int .i64 0, .int .i64 0] [(0, 1, .const (.int .i64 2)), (1, 1, .const (.int .i64 3))])), .mk (some 15) none (.k (.build [.int .i64 0, .int .i64 0] [(0, 1, .const (.int .i64 3)), (1, 1, .const (.int .i64 2))])), .mk (some 16) none (.k (.build [.int .i64 0, .int .i64 0] [(0, 1, .const (.int .i64 3)), (1, 1, .const (.int .i64 0))])), .mk (some 17) none (.k (.buildS 28 4 2 [.int .i64 0, .int .i64 0] [(0, .tmp 13), (1, .tmp 14), (2, .tmp 15), (3, .tmp 16)])), .mk (some 18) none (.call 11 [.const (.int .i64 4), .tmp 17]), .mk (some 12) none (.k (.mov (.tmp 18))), .mk (some 19) none (.k (.ext (.tmp 12) 0)), .mk (some 20) none (.k (.ext (.tmp 12) 1)), .mk (some 3) none (.k (.mov (.tmp 19))), .mk (some 4) none (.k (.mov (.tmp 20)))]) (.ref 0)
def T9n2 : XC := .seq (.ops [.mk (some 6) none (.k (.build [.int .i64 0, .int .i64 0] [(0, 1, .const (.int .i64 3)), (1, 1, .const (.int .i64 1))])), .mk (some 7) none (.k (.build [.int .i64 0, .int .i64 0] [(0, 1, .const (.int .i64 1)), (1, 1, .const (.int .i64 0))])), .mk (some 8) none (.k (.buildS 28 2 2 [.int .i64 0, .int .i64 0] [(0, .tmp 6), (1, .tmp 7)])), .mk (some 9) none (.call 10 [.const (.int .i64 4), .tmp 8]), .mk (some 5) none (.k (.mov (.tmp 9))), .mk (some 10) none (.k (.ext (.tmp 5) 0)), .mk (some 11) none (.k (.ext (.tmp 5) 1)), .mk (some 1) none (.k (.mov (.tmp 10))), .mk (some 2) none (.k (.mov (.tmp 11)))]) (.ref 1)
def T9 : Nat → XC
 | 0 => T9n0
 | 1 => T9n1
 | 2 => T9n2
 | _ => .skip
theorem t9n0 : T9 0 = T9n0 := rfl
theorem t9n1 : T9 1 = T9n1 := rfl
theorem t9n2 : T9 2 = T9n2 := rfl
def X9 : XC := .seq (.ops [.mk (some 0) none (.k (.mov (.const (.bool false))))]) (.ref 2)
abbrev K9 : List Nat := [0, 1, 2, 3, 4]
theorem n9 : Try.f9.ntmps = 79 := by kernel_rfl
theorem r9 : resT Try.f9.results.toList = some [0] := by kernel_rfl
theorem x9 : cmpF Try.prog Try.f9 = some (expand T9 4 X9) := by kernel_rfl
def T3n0 : XC := .seq (.ops [.mk (some 28) none (.k (.mov (.tmp 5))), .mk (some 4) none (.k (.mov (.tmp 28)))]) .ret
def T3n1 : XC := .seq (.ops [.mk (some 43) none (.k (.mov (.tmp 5))), .mk (some 44) none (.k (.mov (.tmp 43))), .mk (some 45) (some (44, true)) (.k (.mov (.tmp 7))), .mk (some 46) (some (44, true)) (.k (.mov (.tmp 9))), .mk (some 47) (some (44, true)) (.k (.cmp .eql .i64 (.tmp 45) (.tmp 46))), .mk (some 48) none (.k (.pick (.tmp 44) (.tmp 47) (.const (.bool false)))), .mk (some 4) none (.k (.mov (.tmp 48)))]) .ret
def T3n2 : XC := .seq (.ops [.mk (some 4) none (.k (.mov (.const (.bool false))))]) .ret
def T3n3 : XC := .ops [.mk (some 65) none (.k (.mov (.tmp 12))), .mk (some 66) none (.k (.arith .add .i64 (.tmp 65) (.const (.int .i64 1)))), .mk (some 12) none (.k (.mov (.tmp 66)))]
def T3n4 : XC := .seq (.blk 3 (.ops [.mk (some 67) none (.k (.mov (.tmp 11))), .mk (some 68) none (.k (.mov (.tmp 67))), .mk (some 69) (some (68, false)) (.k (.mov (.tmp 1))), .mk (some 70) (some (68, false)) (.k (.mov (.tmp 12))), .mk (some 71) (some (68, false)) (.k (.idx 2 (.tmp 69) (.tmp 70))), .mk (some 72) (some (68, false)) (.k (.idxA 2 1 (.tmp 71) (.const (.int .i64 0)))), .mk (some 73) (some (68, false)) (.k (.load [.int .i64] false (.tmp 72))), .mk (some 74) (some (68, false)) (.k (.mov (.tmp 8))), .mk (some 75) (some (68, false)) (.k (.mov (.tmp 10))), .mk (some 76) (some (68, false)) (.k (.idx 1 (.tmp 74) (.tmp 75))), .mk (some 77) (some (68, false)) (.k (.load [.int .i64] false (.tmp 76))), .mk (some 78) (some (68, false)) (.k (.cmp .eql .i64 (.tmp 73) (.tmp 77))), .mk (some 79) (some (68, false)) (.k (.mov (.tmp 78))), .mk (some 80) (some (79, true)) (.k (.mov (.tmp 1))), .mk (some 81) (some (79, true)) (.k (.mov (.tmp 12))), .mk (some 82) (some (79, true)) (.k (.idx 2 (.tmp 80) (.tmp 81))), .mk (some 83) (some (79, true)) (.k (.idxA 2 1 (.tmp 82) (.const (.int .i64 1)))), .mk (some 84) (some (79, true)) (.k (.load [.int .i64] false (.tmp 83))), .mk (some 85) (some (79, true)) (.k (.mov (.tmp 8))), .mk (some 86) (some (79, true)) (.k (.mov (.tmp 10))), .mk (some 87) (some (79, true)) (.k (.arith .add .i64 (.tmp 86) (.const (.int .i64 1)))), .mk (some 88) (some (79, true)) (.k (.mov (.tmp 8))), .mk (some 89) (some (79, true)) (.k (.lenS (.tmp 88))), .mk (some 90) (some (79, true)) (.k (.div .rem .i64 (.tmp 87) (.tmp 89))), .mk (some 91) (some (79, true)) (.k (.idx 1 (.tmp 85) (.tmp 90))), .mk (some 92) (some (79, true)) (.k (.load [.int .i64] false (.tmp 91))), .mk (some 93) (some (79, true)) (.k (.cmp .eql .i64 (.tmp 84) (.tmp 92))), .mk (some 94) (some (68, false)) (.k (.pick (.tmp 79) (.tmp 93) (.const (.bool false)))), .mk (some 95) none (.k (.pick (.tmp 68) (.const (.bool true)) (.tmp 94))), .mk (some 11) none (.k (.mov (.tmp 95)))])) (.ref 3)
def T3n5 : XC := .seq (.seq (.ops [.mk (some 61) none (.k (.mov (.tmp 12))), .mk (some 62) none (.k (.mov (.tmp 1))), .mk (some 63) none (.k (.lenS (.tmp 62))), .mk (some 64) none (.k (.cmp .lss .i64 (.tmp 61) (.tmp 63)))]) (.cond (.tmp 64) .skip (.exit 2))) (.ref 4)
def T3n6 : XC := .seq (.ops [.mk (some 4) none (.k (.mov (.const (.bool false))))]) .ret
def T3n7 : XC := .seq (.ops [.mk (some 96) none (.k (.mov (.tmp 11))), .mk (some 97) none (.k (.not (.tmp 96))), .mk (some 98) none (.k (.mov (.tmp 97))), .mk (some 99) (some (98, false)) (.k (.mov (.tmp 8))), .mk (some 100) (some (98, false)) (.k (.mov (.tmp 10))), .mk (some 101) (some (98, false)) (.k (.idx 1 (.tmp 99) (.tmp 100))), .mk (some 102) (some (98, false)) (.k (.load [.int .i64] false (.tmp 101))), .mk (some 103) (some (98, false)) (.k (.mov (.tmp 8))), .mk (some 104) (some (98, false)) (.k (.idx 1 (.tmp 103) (.const (.int .i64 0)))), .mk (some 105) (some (98, false)) (.k (.load [.int .i64] false (.tmp 104))), .mk (some 106) (some (98, false)) (.k (.cmp .lss .i64 (.tmp 102) (.tmp 105))), .mk (some 107) none (.k (.pick (.tmp 98) (.const (.bool true)) (.tmp 106))), .mk (some 108) none (.k (.mov (.tmp 107))), .mk (some 109) (some (108, false)) (.k (.mov (.tmp 10))), .mk (some 110) (some (108, false)) (.k (.cmp .gtr .i64 (.tmp 109) (.const (.int .i64 0)))), .mk (some 111) (some (108, false)) (.k (.mov (.tmp 110))), .mk (some 112) (some (111, true)) (.k (.mov (.tmp 8))), .mk (some 113) (some (111, true)) (.k (.mov (.tmp 10))), .mk (some 114) (some (111, true)) (.k (.idx 1 (.tmp 112) (.tmp 113))), .mk (some 115) (some (111, true)) (.k (.load [.int .i64] false (.tmp 114))), .mk (some 116) (some (111, true)) (.k (.mov (.tmp 8))), .mk (some 117) (some (111, true)) (.k (.idx 1 (.tmp 116) (.const (.int .i64 0)))), .mk (some 118) (some (111, true)) (.k (.load [.int .i64] false (.tmp 117))), .mk (some 119) (some (111, true)) (.k (.cmp .eql .i64 (.tmp 115) (.tmp 118))), .mk (some 120) (some (108, false)) (.k (.pick (.tmp 111) (.tmp 119) (.const (.bool false)))), .mk (some 121) none (.k (.pick (.tmp 108) (.const (.bool true)) (.tmp 120)))]) (.cond (.tmp 121) (.ref 6) .skip)
def T3n8 : XC := .seq (.seq (.ops [.mk (some 12) none (.k (.mov (.const (.int .i64 0))))]) (.blk 2 (.loop (.ref 5)))) (.ref 7)
def T3n9 : XC := .ops [.mk (some 59) none (.k (.mov (.tmp 10))), .mk (some 60) none (.k (.arith .add .i64 (.tmp 59) (.const (.int .i64 1)))), .mk (some 10) none (.k (.mov (.tmp 60)))]
def T3n10 : XC := .seq (.blk 1 (.seq (.ops [.mk (some 11) none (.k (.mov (.const (.bool false))))]) (.ref 8))) (.ref 9)
def T3n11 : XC := .seq (.seq (.ops [.mk (some 55) none (.k (.mov (.tmp 10))), .mk (some 56) none (.k (.mov (.tmp 8))), .mk (some 57) none (.k (.lenS (.tmp 56))), .mk (some 58) none (.k (.cmp .lss .i64 (.tmp 55) (.tmp 57)))]) (.cond (.tmp 58) .skip (.exit 0))) (.ref 10)
def T3n12 : XC := .seq (.ops [.mk (some 124) none (.k (.mov (.tmp 5))), .mk (some 4) none (.k (.mov (.tmp 124)))]) .ret
def T3n13 : XC := .seq (.ops [.mk (some 4) none (.k (.mov (.const (.bool false))))]) .ret
def T3n14 : XC := .seq (.ops [.mk (some 4) none (.k (.mov (.const (.bool false))))]) .ret
def T3n15 : XC := .ops [.mk (some 159) none (.k (.mov (.tmp 13))), .mk (some 160) none (.k (.mov (.tmp 6))), .mk (some 161) none (.k (.mov (.tmp 14))), .mk (some 162) none (.k (.idx 1 (.tmp 160) (.tmp 161))), .mk (some 163) none (.k (.load [.int .i64] false (.tmp 162))), .mk (some 164) none (.k (.mov (.tmp 14))), .mk (some 165) none (.k (.arith .add .i64 (.tmp 164) (.const (.int .i64 1)))), .mk (some 166) none (.k (.idx 1 (.tmp 159) (.tmp 163))), .mk none none (.k (.store 1 (.tmp 166) (.tmp 165)))]
def T3n16 : XC := .ops [.mk (some 134) none (.k (.mov (.tmp 14))), .mk (some 135) none (.k (.arith .add .i64 (.tmp 134) (.const (.int .i64 1)))), .mk (some 14) none (.k (.mov (.tmp 135)))]
def T3n17 : XC := .seq (.blk 5 (.seq (.seq (.ops [.mk (some 136) none (.k (.mov (.tmp 6))), .mk (some 137) none (.k (.mov (.tmp 14))), .mk (some 138) none (.k (.idx 1 (.tmp 136) (.tmp 137))), .mk (some 139) none (.k (.load [.int .i64] false (.tmp 138))), .mk (some 140) none (.k (.cmp .lss .i64 (.tmp 139) (.const (.int .i64 0)))), .mk (some 141) none (.k (.mov (.tmp 140))), .mk (some 142) (some (141, false)) (.k (.mov (.tmp 6))), .mk (some 143) (some (141, false)) (.k (.mov (.tmp 14))), .mk (some 144) (some (141, false)) (.k (.idx 1 (.tmp 142) (.tmp 143))), .mk (some 145) (some (141, false)) (.k (.load [.int .i64] false (.tmp 144))), .mk (some 146) (some (141, false)) (.k (.mov (.tmp 0))), .mk (some 147) (some (141, false)) (.k (.cmp .geq .i64 (.tmp 145) (.tmp 146))), .mk (some 148) none (.k (.pick (.tmp 141) (.const (.bool true)) (.tmp 147))), .mk (some 149) none (.k (.mov (.tmp 148))), .mk (some 150) (some (149, false)) (.k (.mov (.tmp 13))), .mk (some 151) (some (149, false)) (.k (.mov (.tmp 6))), .mk (some 152) (some (149, false)) (.k (.mov (.tmp 14))), .mk (some 153) (some (149, false)) (.k (.idx 1 (.tmp 151) (.tmp 152))), .mk (some 154) (some (149, false)) (.k (.load [.int .i64] false (.tmp 153))), .mk (some 155) (some (149, false)) (.k (.idx 1 (.tmp 150) (.tmp 154))), .mk (some 156) (some (149, false)) (.k (.load [.int .i64] false (.tmp 155))), .mk (some 157) (some (149, false)) (.k (.cmp .gtr .i64 (.tmp 156) (.const (.int .i64 0)))), .mk (some 158) none (.k (.pick (.tmp 149) (.const (.bool true)) (.tmp 157)))]) (.cond (.tmp 158) (.ref 14) .skip)) (.ref 15))) (.ref 16)
def T3n18 : XC := .seq (.seq (.ops [.mk (some 131) none (.k (.mov (.tmp 14))), .mk (some 132) none (.k (.mov (.tmp 0))), .mk (some 133) none (.k (.cmp .lss .i64 (.tmp 131) (.tmp 132)))]) (.cond (.tmp 133) .skip (.exit 4))) (.ref 17)
def T3n19 : XC := .seq (.ops [.mk (some 4) none (.k (.mov (.const (.bool false))))]) .ret
def T3n20 : XC := .ops [.mk (some 171) none (.k (.mov (.tmp 15))), .mk (some 172) none (.k (.arith .add .i64 (.tmp 171) (.const (.int .i64 1)))), .mk (some 15) none (.k (.mov (.tmp 172)))]
def T3n21 : XC := .seq (.blk 7 (.seq (.ops [.mk (some 173) none (.k (.mov (.tmp 13))), .mk (some 174) none (.k (.mov (.tmp 1))), .mk (some 175) none (.k (.mov (.tmp 15))), .mk (some 176) none (.k (.idx 2 (.tmp 174) (.tmp 175))), .mk (some 177) none (.k (.idxA 2 1 (.tmp 176) (.const (.int .i64 0)))), .mk (some 178) none (.k (.load [.int .i64] false (.tmp 177))), .mk (some 179) none (.k (.idx 1 (.tmp 173) (.tmp 178))), .mk (some 180) none (.k (.load [.int .i64] false (.tmp 179))), .mk (some 181) none (.k (.mov (.tmp 13))), .mk (some 182) none (.k (.mov (.tmp 1))), .mk (some 183) none (.k (.mov (.tmp 15))), .mk (some 184) none (.k (.idx 2 (.tmp 182) (.tmp 183))), .mk (some 185) none (.k (.idxA 2 1 (.tmp 184) (.const (.int .i64 1)))), .mk (some 186) none (.k (.load [.int .i64] false (.tmp 185))), .mk (some 187) none (.k (.idx 1 (.tmp 181) (.tmp 186))), .mk (some 188) none (.k (.load [.int .i64] false (.tmp 187))), .mk (some 189) none (.k (.cmp .geq .i64 (.tmp 180) (.tmp 188)))]) (.cond (.tmp 189) (.ref 19) .skip))) (.ref 20)
def T3n22 : XC := .seq (.seq (.ops [.mk (some 167) none (.k (.mov (.tmp 15))), .mk (some 168) none (.k (.mov (.tmp 1))), .mk (some 169) none (.k (.lenS (.tmp 168))), .mk (some 170) none (.k (.cmp .lss .i64 (.tmp 167) (.tmp 169)))]) (.cond (.tmp 170) .skip (.exit 6))) (.ref 21)
def T3n23 : XC := .seq (.ops [.mk (some 190) none (.k (.mov (.tmp 5))), .mk (some 4) none (.k (.mov (.tmp 190)))]) .ret
def T3n24 : XC := .seq (.seq (.ops [.mk (some 15) none (.k (.mov (.const (.int .i64 0))))]) (.blk 6 (.loop (.ref 22)))) (.ref 23)
def T3n25 : XC := .seq (.seq (.ops [.mk (some 14) none (.k (.mov (.const (.int .i64 0))))]) (.blk 4 (.loop (.ref 18)))) (.ref 24)
def T3n26 : XC := .seq (.seq (.ops [.mk (some 127) none (.k (.mov (.tmp 6))), .mk (some 128) none (.k (.lenS (.tmp 127))), .mk (some 129) none (.k (.mov (.tmp 0))), .mk (some 130) none (.k (.cmp .neq .i64 (.tmp 128) (.tmp 129)))]) (.cond (.tmp 130) (.ref 13) .skip)) (.ref 25)
def T3n27 : XC := .seq (.ops [.mk (some 125) none (.k (.mov (.tmp 0))), .mk (some 126) none (.k (.mkslc 3 1 8 [.int .i64 0] (.tmp 125) (.tmp 125))), .mk (some 13) none (.k (.mov (.tmp 126)))]) (.ref 26)
def T3n28 : XC := .seq (.seq (.ops [.mk (some 122) none (.k (.mov (.tmp 7))), .mk (some 123) none (.k (.cmp .neq .i64 (.tmp 122) (.const (.int .i64 0))))]) (.cond (.tmp 123) (.ref 12) .skip)) (.ref 27)
def T3n29 : XC := .seq (.seq (.ops [.mk (some 10) none (.k (.mov (.const (.int .i64 0))))]) (.blk 0 (.loop (.ref 11)))) (.ref 28)
def T3n30 : XC := .seq (.seq (.ops [.mk (some 49) none (.k (.mov (.tmp 8))), .mk (some 50) none (.k (.lenS (.tmp 49))), .mk (some 51) none (.k (.cmp .eql .i64 (.tmp 50) (.const (.int .i64 0)))), .mk (some 52) none (.k (.mov (.tmp 7))), .mk (some 53) none (.k (.cmp .eql .i64 (.tmp 52) (.const (.int .i64 0)))), .mk (some 54) none (.k (.eqb true (.tmp 51) (.tmp 53)))]) (.cond (.tmp 54) (.ref 2) .skip)) (.ref 29)
def T3n31 : XC := .seq (.seq (.ops [.mk (some 41) none (.k (.mov (.tmp 9))), .mk (some 42) none (.k (.cmp .neq .i64 (.tmp 41) (.const (.int .i64 0))))]) (.cond (.tmp 42) (.ref 1) .skip)) (.ref 30)
def T3n32 : XC := .seq (.ops [.mk (some 36) none (.k (.mov (.tmp 0))), .mk (some 37) none (.k (.mov (.tmp 1))), .mk (some 38) none (.call 11 [.tmp 36, .tmp 37]), .mk (some 35) none (.k (.mov (.tmp 38))), .mk (some 39) none (.k (.ext (.tmp 35) 0)), .mk (some 40) none (.k (.ext (.tmp 35) 1)), .mk (some 8) none (.k (.mov (.tmp 39))), .mk (some 9) none (.k (.mov (.tmp 40)))]) (.ref 31)
def T3n33 : XC := .seq (.ops [.mk (some 30) none (.k (.mov (.tmp 0))), .mk (some 31) none (.k (.mov (.tmp 1))), .mk (some 32) none (.call 10 [.tmp 30, .tmp 31]), .mk (some 29) none (.k (.mov (.tmp 32))), .mk (some 33) none (.k (.ext (.tmp 29) 0)), .mk (some 34) none (.k (.ext (.tmp 29) 1)), .mk (some 6) none (.k (.mov (.tmp 33))), .mk (some 7) none (.k (.mov (.tmp 34)))]) (.ref 32)
def T3n34 : XC := .seq (.seq (.ops [.mk (some 17) none (.k (.mov (.tmp 0))), .mk (some 18) none (.k (.cmp .gtr .i64 (.tmp 17) (.const (.int .i64 60)))), .mk (some 19) none (.k (.mov (.tmp 18))), .mk (some 20) (some (19, false)) (.k (.mov (.tmp 1))), .mk (some 21) (some (19, false)) (.k (.lenS (.tmp 20))), .mk (some 22) (some (19, false)) (.k (.cmp .gtr .i64 (.tmp 21) (.const (.int .i64 300)))), .mk (some 23) none (.k (.pick (.tmp 19) (.const (.bool true)) (.tmp 22))), .mk (some 24) none (.k (.mov (.tmp 23))), .mk (some 25) (some (24, false)) (.k (.mov (.tmp 5))), .mk (some 26) (some (24, false)) (.k (.not (.tmp 25))), .mk (some 27) none (.k (.pick (.tmp 24) (.const (.bool true)) (.tmp 26)))]) (.cond (.tmp 27) (.ref 0) .skip)) (.ref 33)
def T3n35 : XC := .seq (.ops [.mk (some 16) none (.call 9 []), .mk (some 5) none (.k (.mov (.tmp 16)))]) (.ref 34)
def T3 : Nat → XC
 | 0 => T3n0
 | 1 => T3n1
 | 2 => T3n2
 | 3 => T3n3
 | 4 => T3n4
 | 5 => T3n5
 | 6 => T3n6
 | 7 => T3n7
 | 8 => T3n8
 | 9 => T3n9
 | 10 => T3n10
 | 11 => T3n11
 | 12 => T3n12
 | 13 => T3n13
 | 14 => T3n14
 | 15 => T3n15
 | 16 => T3n16
 | 17 => T3n17
 | 18 => T3n18
 | 19 => T3n19
 | 20 => T3n20
 | 21 => T3n21
 | 22 => T3n22
 | 23 => T3n23
 | 24 => T3n24
 | 25 => T3n25
 | 26 => T3n26
 | 27 => T3n27
 | 28 => T3n28
 | 29 => T3n29
 | 30 => T3n30
 | 31 => T3n31
 | 32 => T3n32
 | 33 => T3n33
 | 34 => T3n34
 | 35 => T3n35
 | _ => .skip
def X3 : XC := .seq (.ops [.mk (some 4) none (.k (.mov (.const (.bool false))))]) (.ref 35)
theorem n3 : Try.f3.ntmps = 191 := by kernel_rfl
theorem r3 : resT Try.f3.results.toList = some [4] := by kernel_rfl
theorem x3 : cmpF Try.prog Try.f3 = some (expand T3 37 X3) := by kernel_rfl
theorem n4 : Try.f4.ntmps = 176 := by kernel_rfl
theorem r4 : resT Try.f4.results.toList = some [4] := by kernel_rfl
theorem r5 : resT Try.f5.results.toList = some [4] := by kernel_rfl
end Go.Proofs.Ytbkpiljencaoeaa
