/- Printed by program: the small code of functions, and that it is theirs. -/
import Derived.Test.YtlbiogokpadaoaaGreatDoorSxStill
import Derived.Test.YtlbiogokpadaoaaGreatDoorProg
import Derived.KernelRfl
set_option linter.unusedSimpArgs false
set_option linter.unusedVariables false
set_option linter.unnecessarySimpa false
namespace Go.Proofs.YtlbiogokpadaoaaGreatDoor
open Go Go.Sx
set_option maxRecDepth 100000
def T22n0 : XC := .seq (.ops [.mk (some 2) none (.k (.mov (.const (.slice none 0 0)))), .mk (some 3) none (.k (.mov (.const (.int .i64 2))))]) .ret
def T22n1 : XC := .ops [.mk (some 61) none (.k (.mov (.tmp 4))), .mk (some 62) none (.k (.mov (.tmp 5))), .mk (some 63) none (.call 41 [.tmp 61, .const (.int .i64 7), .tmp 62])]
def T22n2 : XC := .seq (.ops [.mk (some 49) none (.k (.mov (.tmp 11))), .mk (some 50) none (.k (.mov (.tmp 49))), .mk (some 51) (some (50, true)) (.k (.load [.int .i64, .int .i64, .int .i64, .int .i64, .int .i64] true (.tmp 6))), .mk (some 52) (some (50, true)) (.call 21 [.tmp 51]), .mk (some 53) none (.k (.pick (.tmp 50) (.tmp 52) (.const (.bool false)))), .mk (some 54) none (.k (.mov (.tmp 53))), .mk (some 55) (some (54, true)) (.k (.load [.int .i64, .int .i64, .int .i64, .int .i64, .int .i64] true (.tmp 6))), .mk (some 56) (some (54, true)) (.call 40 [.tmp 55]), .mk (some 57) (some (54, true)) (.k (.mov (.tmp 10))), .mk (some 58) (some (54, true)) (.k (.bits .andNot .u8 (.tmp 56) (.tmp 57))), .mk (some 59) (some (54, true)) (.k (.cmp .neq .u8 (.tmp 58) (.const (.int .u8 0)))), .mk (some 60) none (.k (.pick (.tmp 54) (.tmp 59) (.const (.bool false))))]) (.cond (.tmp 60) (.ref 1) .skip)
def T22n3 : XC := .seq (.ops [.mk (some 45) none (.k (.mov (.tmp 7))), .mk (some 46) none (.k (.mov (.tmp 45))), .mk (some 47) (some (46, false)) (.k (.mov (.tmp 11))), .mk (some 48) none (.k (.pick (.tmp 46) (.const (.bool true)) (.tmp 47))), .mk (some 7) none (.k (.mov (.tmp 48)))]) (.ref 2)
def T22n4 : XC := .seq (.ops [.mk (some 35) none (.k (.mov (.tmp 4))), .mk (some 36) none (.k (.nilc (.tmp 35))), .mk (some 37) none (.k (.fld 1 (.tmp 36))), .mk (some 38) none (.k (.load [.map] false (.tmp 37))), .mk (some 39) none (.k (.mov (.tmp 5))), .mk (some 40) none (.k (.mov (.tmp 9))), .mk (some 41) none (.k (.build [.int .i64 0, .bool false] [(0, 1, .tmp 39), (1, 1, .tmp 40)])), .mk (some 42) none (.k (.lkupA [.int .i64, .bool] (.int .u8 0) true (.tmp 38) (.tmp 41))), .mk (some 34) none (.k (.mov (.tmp 42))), .mk (some 43) none (.k (.ext (.tmp 34) 0)), .mk (some 44) none (.k (.ext (.tmp 34) 1)), .mk (some 10) none (.k (.mov (.tmp 43))), .mk (some 11) none (.k (.mov (.tmp 44)))]) (.ref 3)
def T22n5 : XC := .seq (.blk 3 (.seq (.ops [.mk (some 32) none (.k (.idx 1 (.tmp 28) (.tmp 30))), .mk (some 33) none (.k (.load [.bool] false (.tmp 32))), .mk (some 9) none (.k (.mov (.tmp 33)))]) (.ref 4))) (.ops [.mk (some 64) none (.k (.arith .add .i64 (.tmp 30) (.const (.int .i64 1)))), .mk (some 30) none (.k (.mov (.tmp 64)))])
def T22n6 : XC := .seq (.cond (.tmp 31) .skip (.exit 2)) (.ref 5)
def T22n7 : XC := .seq (.ops [.mk (some 31) none (.k (.cmp .lss .i64 (.tmp 30) (.tmp 29)))]) (.ref 6)
def T22n8 : XC := .ops [.mk (some 67) none (.k (.mov (.tmp 4))), .mk (some 68) none (.k (.mov (.tmp 5))), .mk (some 69) none (.call 41 [.tmp 67, .const (.int .i64 8), .tmp 68])]
def T22n9 : XC := .seq (.ops [.mk (some 65) none (.k (.mov (.tmp 7))), .mk (some 66) none (.k (.not (.tmp 65)))]) (.cond (.tmp 66) (.ref 8) .skip)
def T22n10 : XC := .seq (.seq (.ops [.mk (some 28) none (.k (.buildS 4 2 1 [.bool false] [(0, .const (.bool false)), (1, .const (.bool true))])), .mk (some 29) none (.k (.lenS (.tmp 28))), .mk (some 30) none (.k (.mov (.const (.int .i64 0))))]) (.blk 2 (.loop (.ref 7)))) (.ref 9)
def T22n11 : XC := .seq (.ops [.mk (some 7) none (.k (.mov (.const (.bool false))))]) (.ref 10)
def T22n12 : XC := .seq (.blk 1 (.seq (.ops [.mk (some 25) none (.k (.mov (.tmp 23))), .mk (some 26) none (.k (.idx 5 (.tmp 21) (.tmp 23))), .mk (some 27) none (.k (.load [.int .i64, .int .i64, .int .i64, .int .i64, .int .i64] true (.tmp 26))), .mk (some 6) none (.k (.alloc 41 [.int .i64 0, .int .i64 0, .int .i64 0, .int .i64 0, .int .i64 0])), .mk (some 5) none (.k (.mov (.tmp 25))), .mk none none (.k (.store 5 (.tmp 6) (.tmp 27)))]) (.ref 11))) (.ops [.mk (some 70) none (.k (.arith .add .i64 (.tmp 23) (.const (.int .i64 1)))), .mk (some 23) none (.k (.mov (.tmp 70)))])
def T22n13 : XC := .seq (.cond (.tmp 24) .skip (.exit 0)) (.ref 12)
def T22n14 : XC := .seq (.ops [.mk (some 24) none (.k (.cmp .lss .i64 (.tmp 23) (.tmp 22)))]) (.ref 13)
def T22n15 : XC := .seq (.ops [.mk (some 76) none (.k (.mov (.tmp 4))), .mk (some 77) none (.k (.nilc (.tmp 76))), .mk (some 78) none (.k (.fld 2 (.tmp 77))), .mk (some 79) none (.k (.load [.slc] false (.tmp 78))), .mk (some 80) none (.call 46 [.tmp 79]), .mk (some 2) none (.k (.mov (.tmp 80))), .mk (some 3) none (.k (.mov (.const (.int .i64 0))))]) .ret
def T22n16 : XC := .seq (.ops [.mk (some 71) none (.k (.mov (.tmp 4))), .mk (some 72) none (.k (.nilc (.tmp 71))), .mk (some 73) none (.k (.fld 2 (.tmp 72))), .mk (some 74) none (.k (.load [.slc] false (.tmp 73))), .mk (some 75) none (.call 42 [.tmp 74, .func 43])]) (.ref 15)
def T22n17 : XC := .seq (.seq (.ops [.mk (some 21) none (.k (.mov (.tmp 0))), .mk (some 22) none (.k (.lenS (.tmp 21))), .mk (some 23) none (.k (.mov (.const (.int .i64 0))))]) (.blk 0 (.loop (.ref 14)))) (.ref 16)
def T22n18 : XC := .seq (.ops [.mk (some 19) none (.k (.mov (.tmp 4))), .mk (some 20) none (.call 39 [.tmp 19])]) (.ref 17)
def T22n19 : XC := .seq (.ops [.mk (some 15) none (.k (.mov (.tmp 0))), .mk (some 16) none (.k .mkmap), .mk (some 17) none (.k (.build [.slice none 0 0, .map none, .slice none 0 0] [(0, 1, .tmp 15), (1, 1, .tmp 16)])), .mk (some 18) none (.k (.box 76 3 (.tmp 17))), .mk (some 4) none (.k (.mov (.tmp 18)))]) (.ref 18)
def T22n20 : XC := .seq (.seq (.ops [.mk (some 12) none (.k (.mov (.tmp 0))), .mk (some 13) none (.k (.lenS (.tmp 12))), .mk (some 14) none (.k (.cmp .gtr .i64 (.tmp 13) (.const (.int .i64 1024))))]) (.cond (.tmp 14) (.ref 0) .skip)) (.ref 19)
def T22 : Nat → XC
 | 0 => T22n0
 | 1 => T22n1
 | 2 => T22n2
 | 3 => T22n3
 | 4 => T22n4
 | 5 => T22n5
 | 6 => T22n6
 | 7 => T22n7
 | 8 => T22n8
 | 9 => T22n9
 | 10 => T22n10
 | 11 => T22n11
 | 12 => T22n12
 | 13 => T22n13
 | 14 => T22n14
 | 15 => T22n15
 | 16 => T22n16
 | 17 => T22n17
 | 18 => T22n18
 | 19 => T22n19
 | 20 => T22n20
 | _ => .skip
theorem t22n0 : T22 0 = T22n0 := rfl
theorem t22n1 : T22 1 = T22n1 := rfl
theorem t22n2 : T22 2 = T22n2 := rfl
theorem t22n3 : T22 3 = T22n3 := rfl
theorem t22n4 : T22 4 = T22n4 := rfl
theorem t22n5 : T22 5 = T22n5 := rfl
theorem t22n6 : T22 6 = T22n6 := rfl
theorem t22n7 : T22 7 = T22n7 := rfl
theorem t22n8 : T22 8 = T22n8 := rfl
theorem t22n9 : T22 9 = T22n9 := rfl
theorem t22n10 : T22 10 = T22n10 := rfl
theorem t22n11 : T22 11 = T22n11 := rfl
theorem t22n12 : T22 12 = T22n12 := rfl
theorem t22n13 : T22 13 = T22n13 := rfl
theorem t22n14 : T22 14 = T22n14 := rfl
theorem t22n15 : T22 15 = T22n15 := rfl
theorem t22n16 : T22 16 = T22n16 := rfl
theorem t22n17 : T22 17 = T22n17 := rfl
theorem t22n18 : T22 18 = T22n18 := rfl
theorem t22n19 : T22 19 = T22n19 := rfl
theorem t22n20 : T22 20 = T22n20 := rfl
def X22 : XC := .seq (.ops [.mk (some 2) none (.k (.mov (.const (.slice none 0 0)))), .mk (some 3) none (.k (.mov (.const (.int .i64 0))))]) (.ref 20)
abbrev K22 : List Nat := [0, 2, 3, 4, 5, 6, 7, 9, 10, 11, 14, 21, 22, 23, 24, 28, 29, 30, 31, 60, 66]
theorem n22 : Tryz.f22.ntmps = 81 := by kernel_rfl
theorem r22 : resT Tryz.f22.results.toList = some [2, 3] := by kernel_rfl
theorem x22 : cmpF Tryz.prog Tryz.f22 = some (expand T22 22 X22) := by kernel_rfl
def T39n0 : XC := .seq (.ops [.mk (some 43) none (.k (.load [.ptr] false (.tmp 1))), .mk (some 44) none (.k (.fld 0 (.tmp 3))), .mk (some 45) none (.k (.load [.int .i64] false (.tmp 44))), .mk (some 46) none (.call 41 [.tmp 43, .const (.int .i64 1), .tmp 45])]) (.exit 1)
def T39n1 : XC := .ops [.mk (some 72) none (.k (.load [.ptr] false (.tmp 1))), .mk (some 73) none (.k (.fld 0 (.tmp 3))), .mk (some 74) none (.k (.load [.int .i64] false (.tmp 73))), .mk (some 75) none (.call 41 [.tmp 72, .const (.int .i64 5), .tmp 74])]
def T39n2 : XC := .cond (.tmp 86) (.ops [.mk (some 7) none (.k (.mov (.const (.int .u8 255))))]) .skip
def T39n3 : XC := .ops [.mk (some 104) none (.k (.load [.slc] false (.tmp 2))), .mk (some 105) none (.k (.load [.int .i64, .bool] true (.tmp 6))), .mk (some 106) none (.k (.buildS 79 1 2 [.int .i64 0, .bool false] [(0, .tmp 105)])), .mk (some 107) none (.k (.app 79 2 16 (.tmp 104) (.tmp 106))), .mk none none (.k (.store 1 (.tmp 2) (.tmp 107)))]
def T39n4 : XC := .seq (.ops [.mk (some 96) none (.k (.load [.ptr] false (.tmp 1))), .mk (some 97) none (.k (.nilc (.tmp 96))), .mk (some 98) none (.k (.fld 1 (.tmp 97))), .mk (some 99) none (.k (.load [.map] false (.tmp 98))), .mk (some 100) none (.k (.load [.int .i64, .bool] true (.tmp 6))), .mk (some 101) none (.k (.mov (.tmp 7))), .mk (some 102) none (.k (.load [.int .u8] false (.tmp 5))), .mk (some 103) none (.k (.bits .and .u8 (.tmp 101) (.tmp 102))), .mk none none (.k (.mupdA [.int .i64, .bool] (.tmp 99) (.tmp 100) (.tmp 103)))]) (.ref 3)
def T39n5 : XC := .seq (.ops [.mk (some 87) none (.k (.mov (.tmp 8))), .mk (some 88) none (.k (.not (.tmp 87))), .mk (some 89) none (.k (.mov (.tmp 88))), .mk (some 90) (some (89, false)) (.k (.mov (.tmp 7))), .mk (some 91) (some (89, false)) (.k (.load [.int .u8] false (.tmp 5))), .mk (some 92) (some (89, false)) (.k (.bits .and .u8 (.tmp 90) (.tmp 91))), .mk (some 93) (some (89, false)) (.k (.mov (.tmp 7))), .mk (some 94) (some (89, false)) (.k (.cmp .neq .u8 (.tmp 92) (.tmp 93))), .mk (some 95) none (.k (.pick (.tmp 89) (.const (.bool true)) (.tmp 94)))]) (.cond (.tmp 95) (.ref 4) .skip)
def T39n6 : XC := .seq (.seq (.ops [.mk (some 85) none (.k (.mov (.tmp 8))), .mk (some 86) none (.k (.not (.tmp 85)))]) (.ref 2)) (.ref 5)
def T39n7 : XC := .seq (.ops [.mk (some 77) none (.k (.load [.ptr] false (.tmp 1))), .mk (some 78) none (.k (.nilc (.tmp 77))), .mk (some 79) none (.k (.fld 1 (.tmp 78))), .mk (some 80) none (.k (.load [.map] false (.tmp 79))), .mk (some 81) none (.k (.load [.int .i64, .bool] true (.tmp 6))), .mk (some 82) none (.k (.lkupA [.int .i64, .bool] (.int .u8 0) true (.tmp 80) (.tmp 81))), .mk (some 76) none (.k (.mov (.tmp 82))), .mk (some 83) none (.k (.ext (.tmp 76) 0)), .mk (some 84) none (.k (.ext (.tmp 76) 1)), .mk (some 7) none (.k (.mov (.tmp 83))), .mk (some 8) none (.k (.mov (.tmp 84)))]) (.ref 6)
def T39n8 : XC := .blk 3 (.seq (.seq (.ops [.mk (some 60) none (.k (.fld 1 (.tmp 6))), .mk (some 61) none (.k (.load [.bool] false (.tmp 60))), .mk (some 62) none (.k (.mov (.tmp 61))), .mk (some 63) (some (62, true)) (.k (.fld 0 (.tmp 6))), .mk (some 64) (some (62, true)) (.k (.load [.int .i64] false (.tmp 63))), .mk (some 65) (some (62, true)) (.k (.load [.ptr] false (.tmp 1))), .mk (some 66) (some (62, true)) (.k (.nilc (.tmp 65))), .mk (some 67) (some (62, true)) (.k (.fld 0 (.tmp 66))), .mk (some 68) (some (62, true)) (.k (.load [.slc] false (.tmp 67))), .mk (some 69) (some (62, true)) (.k (.lenS (.tmp 68))), .mk (some 70) (some (62, true)) (.k (.cmp .geq .i64 (.tmp 64) (.tmp 69))), .mk (some 71) none (.k (.pick (.tmp 62) (.tmp 70) (.const (.bool false))))]) (.cond (.tmp 71) (.ref 1) .skip)) (.ref 7))
def T39n9 : XC := .blk 2 (.rng (.tmp 58) [59] (.ops [.mk (some 6) none (.k (.alloc 79 [.int .i64 0, .bool false])), .mk none none (.k (.store 2 (.tmp 6) (.tmp 59)))]) (.ref 8))
def T39n10 : XC := .seq (.ops [.mk (some 56) none (.k (.load [.ptr] false (.tmp 1))), .mk (some 57) none (.k (.load [.int .i64, .bool] true (.tmp 3))), .mk (some 58) none (.call 73 [.tmp 56, .tmp 57])]) (.ref 9)
def T39n11 : XC := .seq (.seq (.ops [.mk (some 40) none (.k (.load [.int .i64, .int .i64, .int .i64, .int .i64, .int .i64] true (.tmp 4))), .mk (some 41) none (.call 21 [.tmp 40]), .mk (some 42) none (.k (.not (.tmp 41)))]) (.cond (.tmp 42) (.ref 0) .skip)) (.seq (.alt 11 (.seq (.mk (some 47) none (.k (.load [.ptr] false (.tmp 1)))) 0 (.seq (.mk (some 48) none (.k (.nilc (.tmp 47)))) 1 (.seq (.mk (some 49) none (.k (.fld 1 (.tmp 48)))) 2 (.seq (.mk (some 50) none (.k (.load [.map] false (.tmp 49)))) 3 (.seq (.mk (some 51) none (.k (.load [.int .i64, .bool] true (.tmp 3)))) 4 (.seq (.mk (some 52) none (.k (.lkupA [.int .i64, .bool] (.int .u8 0) false (.tmp 50) (.tmp 51)))) 5 (.seq (.mk (some 53) none (.k (.load [.int .i64, .int .i64, .int .i64, .int .i64, .int .i64] true (.tmp 4)))) 6 (.alt (.seq (.mk (some 54) none (.call 72 [.tmp 53])) 7 (.seq (.mk none none (.still 47 (.load [.ptr] false (.tmp 1)))) 0 (.seq (.mk none none (.still 50 (.load [.map] false (.tmp 49)))) 3 (.seq (.mk none none (.still 51 (.load [.int .i64, .bool] true (.tmp 3)))) 4 (.seq (.mk none none (.still 52 (.lkupA [.int .i64, .bool] (.int .u8 0) false (.tmp 50) (.tmp 51)))) 5 (.seq (.mk (some 55) none (.k (.bits .or .u8 (.tmp 52) (.tmp 54)))) 8 (.seq (.mk (some 5) none (.k (.alloc 5 [.int .u8 0]))) 9 (.seq (.mk none none (.k (.store 1 (.tmp 5) (.tmp 55)))) 10 .done)))))))) (.seq (.mk (some 5) none (.k (.alloc 5 [.int .u8 0]))) 9 (.seq (.mk (some 54) none (.call 72 [.tmp 53])) 7 (.seq (.mk none none (.still 47 (.load [.ptr] false (.tmp 1)))) 0 (.seq (.mk none none (.still 50 (.load [.map] false (.tmp 49)))) 3 (.seq (.mk none none (.still 51 (.load [.int .i64, .bool] true (.tmp 3)))) 4 (.seq (.mk none none (.still 52 (.lkupA [.int .i64, .bool] (.int .u8 0) false (.tmp 50) (.tmp 51)))) 5 (.seq (.mk (some 55) none (.k (.bits .or .u8 (.tmp 52) (.tmp 54)))) 8 (.seq (.mk none none (.k (.store 1 (.tmp 5) (.tmp 55)))) 10 .done))))))))))))))))) (.ref 10))
def T39n12 : XC := .seq (.ops [.mk (some 32) none (.k (.load [.ptr] false (.tmp 1))), .mk (some 33) none (.k (.nilc (.tmp 32))), .mk (some 34) none (.k (.fld 0 (.tmp 33))), .mk (some 35) none (.k (.load [.slc] false (.tmp 34))), .mk (some 36) none (.k (.fld 0 (.tmp 3))), .mk (some 37) none (.k (.load [.int .i64] false (.tmp 36))), .mk (some 38) none (.k (.idx 5 (.tmp 35) (.tmp 37))), .mk (some 39) none (.k (.load [.int .i64, .int .i64, .int .i64, .int .i64, .int .i64] true (.tmp 38))), .mk (some 4) none (.k (.alloc 41 [.int .i64 0, .int .i64 0, .int .i64 0, .int .i64 0, .int .i64 0])), .mk none none (.k (.store 5 (.tmp 4) (.tmp 39)))]) (.ref 11)
def T39n13 : XC := .seq (.seq (.ops [.mk (some 24) none (.k (.fld 0 (.tmp 3))), .mk (some 25) none (.k (.load [.int .i64] false (.tmp 24))), .mk (some 26) none (.k (.load [.ptr] false (.tmp 1))), .mk (some 27) none (.k (.nilc (.tmp 26))), .mk (some 28) none (.k (.fld 0 (.tmp 27))), .mk (some 29) none (.k (.load [.slc] false (.tmp 28))), .mk (some 30) none (.k (.lenS (.tmp 29))), .mk (some 31) none (.k (.cmp .geq .i64 (.tmp 25) (.tmp 30)))]) (.cond (.tmp 31) (.exit 1) .skip)) (.ref 12)
def T39n14 : XC := .seq (.ops [.mk (some 22) none (.k (.load [.slc] false (.tmp 2))), .mk (some 23) none (.k (.sub 2 (.tmp 22) (some (.const (.int .i64 1))) none)), .mk none none (.k (.store 1 (.tmp 2) (.tmp 23)))]) (.ref 13)
def T39n15 : XC := .blk 1 (.seq (.ops [.mk (some 19) none (.k (.load [.slc] false (.tmp 2))), .mk (some 20) none (.k (.idx 2 (.tmp 19) (.const (.int .i64 0)))), .mk (some 21) none (.k (.load [.int .i64, .bool] true (.tmp 20))), .mk (some 3) none (.k (.alloc 79 [.int .i64 0, .bool false])), .mk none none (.k (.store 2 (.tmp 3) (.tmp 21)))]) (.ref 14))
def T39n16 : XC := .seq (.seq (.ops [.mk (some 16) none (.k (.load [.slc] false (.tmp 2))), .mk (some 17) none (.k (.lenS (.tmp 16))), .mk (some 18) none (.k (.cmp .gtr .i64 (.tmp 17) (.const (.int .i64 0))))]) (.cond (.tmp 18) .skip (.exit 0))) (.ref 15)
def T39n17 : XC := .seq (.lab) (.blk 0 (.loop (.ref 16)))
def T39n18 : XC := .seq (.ops [.mk (some 11) none (.k (.load [.ptr] false (.tmp 1))), .mk (some 12) none (.k (.nilc (.tmp 11))), .mk (some 13) none (.k (.fld 1 (.tmp 12))), .mk (some 14) none (.k (.load [.map] false (.tmp 13))), .mk (some 15) none (.k (.build [.int .i64 0, .bool false] [])), .mk none none (.k (.mupdA [.int .i64, .bool] (.tmp 14) (.tmp 15) (.const (.int .u8 0))))]) (.ref 17)
def T39n19 : XC := .scp (.seq (.ops [.mk (some 9) none (.k (.build [.int .i64 0, .bool false] [])), .mk (some 10) none (.k (.buildS 79 1 2 [.int .i64 0, .bool false] [(0, .tmp 9)])), .mk (some 2) none (.k (.alloc 109 [.slice none 0 0])), .mk none none (.k (.store 1 (.tmp 2) (.tmp 10)))]) (.ref 18))
def T39 : Nat → XC
 | 0 => T39n0
 | 1 => T39n1
 | 2 => T39n2
 | 3 => T39n3
 | 4 => T39n4
 | 5 => T39n5
 | 6 => T39n6
 | 7 => T39n7
 | 8 => T39n8
 | 9 => T39n9
 | 10 => T39n10
 | 11 => T39n11
 | 12 => T39n12
 | 13 => T39n13
 | 14 => T39n14
 | 15 => T39n15
 | 16 => T39n16
 | 17 => T39n17
 | 18 => T39n18
 | 19 => T39n19
 | _ => .skip
theorem t39n0 : T39 0 = T39n0 := rfl
theorem t39n1 : T39 1 = T39n1 := rfl
theorem t39n2 : T39 2 = T39n2 := rfl
theorem t39n3 : T39 3 = T39n3 := rfl
theorem t39n4 : T39 4 = T39n4 := rfl
theorem t39n5 : T39 5 = T39n5 := rfl
theorem t39n6 : T39 6 = T39n6 := rfl
theorem t39n7 : T39 7 = T39n7 := rfl
theorem t39n8 : T39 8 = T39n8 := rfl
theorem t39n9 : T39 9 = T39n9 := rfl
theorem t39n10 : T39 10 = T39n10 := rfl
theorem t39n11 : T39 11 = T39n11 := rfl
theorem t39n12 : T39 12 = T39n12 := rfl
theorem t39n13 : T39 13 = T39n13 := rfl
theorem t39n14 : T39 14 = T39n14 := rfl
theorem t39n15 : T39 15 = T39n15 := rfl
theorem t39n16 : T39 16 = T39n16 := rfl
theorem t39n17 : T39 17 = T39n17 := rfl
theorem t39n18 : T39 18 = T39n18 := rfl
theorem t39n19 : T39 19 = T39n19 := rfl
def X39 : XC := .seq (.ops [.mk (some 1) none (.k (.box 73 1 (.tmp 0)))]) (.ref 19)
abbrev K39 : List Nat := [0, 1, 2, 3, 4, 5, 6, 7, 8, 18, 31, 42, 47, 48, 49, 50, 51, 52, 53, 54, 55, 58, 59, 71, 86, 95]
theorem n39 : Tryz.f39.ntmps = 108 := by kernel_rfl
theorem r39 : resT Tryz.f39.results.toList = some [] := by kernel_rfl
theorem x39 : cmpF Tryz.prog Tryz.f39 = some (expand T39 21 X39) := by kernel_rfl
def T40n0 : XC := .seq (.ops [.mk (some 12) none (.k (.fld 2 (.tmp 1))), .mk (some 13) none (.k (.load [.int .i64] false (.tmp 12))), .mk (some 14) none (.k (.buildS 3 1 1 [.int .i64 0] [(0, .tmp 13)])), .mk (some 15) none (.call 74 [.tmp 14]), .mk (some 2) none (.k (.mov (.tmp 15)))]) .ret
def T40n1 : XC := .seq (.ops [.mk (some 25) none (.k (.fld 2 (.tmp 1))), .mk (some 26) none (.k (.load [.int .i64] false (.tmp 25))), .mk (some 27) none (.k (.fld 3 (.tmp 1))), .mk (some 28) none (.k (.load [.int .i64] false (.tmp 27))), .mk (some 29) none (.k (.buildS 3 2 1 [.int .i64 0] [(0, .tmp 26), (1, .tmp 28)])), .mk (some 30) none (.call 74 [.tmp 29]), .mk (some 2) none (.k (.mov (.tmp 30)))]) .ret
def T40n2 : XC := .seq (.ops [.mk (some 45) none (.k (.fld 1 (.tmp 1))), .mk (some 46) none (.k (.load [.int .i64] false (.tmp 45))), .mk (some 47) none (.k (.fld 2 (.tmp 1))), .mk (some 48) none (.k (.load [.int .i64] false (.tmp 47))), .mk (some 49) none (.k (.buildS 3 2 1 [.int .i64 0] [(0, .tmp 46), (1, .tmp 48)])), .mk (some 50) none (.call 74 [.tmp 49]), .mk (some 2) none (.k (.mov (.tmp 50)))]) .ret
def T40n3 : XC := .seq (.ops [.mk (some 32) none (.k (.fld 0 (.tmp 1))), .mk (some 33) none (.k (.load [.int .i64] false (.tmp 32))), .mk (some 34) none (.k (.cmp .eql .i64 (.tmp 33) (.const (.int .i64 12)))), .mk (some 35) none (.k (.mov (.tmp 34))), .mk (some 36) (some (35, false)) (.k (.fld 0 (.tmp 1))), .mk (some 37) (some (35, false)) (.k (.load [.int .i64] false (.tmp 36))), .mk (some 38) (some (35, false)) (.k (.cmp .geq .i64 (.tmp 37) (.const (.int .i64 14)))), .mk (some 39) (some (35, false)) (.k (.mov (.tmp 38))), .mk (some 40) (some (39, true)) (.k (.fld 0 (.tmp 1))), .mk (some 41) (some (39, true)) (.k (.load [.int .i64] false (.tmp 40))), .mk (some 42) (some (39, true)) (.k (.cmp .leq .i64 (.tmp 41) (.const (.int .i64 16)))), .mk (some 43) (some (35, false)) (.k (.pick (.tmp 39) (.tmp 42) (.const (.bool false)))), .mk (some 44) none (.k (.pick (.tmp 35) (.const (.bool true)) (.tmp 43))), .mk (some 31) none (.k (.mov (.tmp 44)))]) (.cond (.tmp 31) (.ref 2) .skip)
def T40n4 : XC := .seq (.ops [.mk (some 17) none (.k (.fld 0 (.tmp 1))), .mk (some 18) none (.k (.load [.int .i64] false (.tmp 17))), .mk (some 19) none (.k (.cmp .geq .i64 (.tmp 18) (.const (.int .i64 4)))), .mk (some 20) none (.k (.mov (.tmp 19))), .mk (some 21) (some (20, true)) (.k (.fld 0 (.tmp 1))), .mk (some 22) (some (20, true)) (.k (.load [.int .i64] false (.tmp 21))), .mk (some 23) (some (20, true)) (.k (.cmp .leq .i64 (.tmp 22) (.const (.int .i64 10)))), .mk (some 24) none (.k (.pick (.tmp 20) (.tmp 23) (.const (.bool false)))), .mk (some 16) none (.k (.mov (.tmp 24)))]) (.cond (.tmp 16) (.ref 1) (.ref 3))
def T40n5 : XC := .seq (.ops [.mk (some 2) none (.k (.mov (.const (.int .u8 0))))]) .ret
def T40n6 : XC := .seq (.blk 0 (.seq (.ops [.mk (some 4) none (.k (.fld 0 (.tmp 1))), .mk (some 5) none (.k (.load [.int .i64] false (.tmp 4))), .mk (some 6) none (.k (.cmp .eql .i64 (.tmp 5) (.const (.int .i64 3)))), .mk (some 7) none (.k (.mov (.tmp 6))), .mk (some 8) (some (7, false)) (.k (.fld 0 (.tmp 1))), .mk (some 9) (some (7, false)) (.k (.load [.int .i64] false (.tmp 8))), .mk (some 10) (some (7, false)) (.k (.cmp .eql .i64 (.tmp 9) (.const (.int .i64 11)))), .mk (some 11) none (.k (.pick (.tmp 7) (.const (.bool true)) (.tmp 10))), .mk (some 3) none (.k (.mov (.tmp 11)))]) (.cond (.tmp 3) (.ref 0) (.ref 4)))) (.ref 5)
def T40 : Nat → XC
 | 0 => T40n0
 | 1 => T40n1
 | 2 => T40n2
 | 3 => T40n3
 | 4 => T40n4
 | 5 => T40n5
 | 6 => T40n6
 | _ => .skip
theorem t40n0 : T40 0 = T40n0 := rfl
theorem t40n1 : T40 1 = T40n1 := rfl
theorem t40n2 : T40 2 = T40n2 := rfl
theorem t40n3 : T40 3 = T40n3 := rfl
theorem t40n4 : T40 4 = T40n4 := rfl
theorem t40n5 : T40 5 = T40n5 := rfl
theorem t40n6 : T40 6 = T40n6 := rfl
def X40 : XC := .seq (.ops [.mk (some 1) none (.k (.box 41 5 (.tmp 0))), .mk (some 2) none (.k (.mov (.const (.int .u8 0))))]) (.ref 6)
abbrev K40 : List Nat := [0, 1, 2, 3, 16, 31]
theorem n40 : Tryz.f40.ntmps = 51 := by kernel_rfl
theorem r40 : resT Tryz.f40.results.toList = some [2] := by kernel_rfl
theorem x40 : cmpF Tryz.prog Tryz.f40 = some (expand T40 8 X40) := by kernel_rfl
def T41 : Nat → XC
 | _ => .skip
def X41 : XC := .ops [.mk (some 6) none (.k (.mov (.tmp 0))), .mk (some 7) none (.k (.mov (.tmp 0))), .mk (some 8) none (.k (.nilc (.tmp 7))), .mk (some 9) none (.k (.fld 2 (.tmp 8))), .mk (some 10) none (.k (.load [.slc] false (.tmp 9))), .mk (some 11) none (.k (.mov (.tmp 1))), .mk (some 12) none (.k (.mov (.tmp 2))), .mk (some 13) none (.k (.build [.int .i64 0, .int .i64 0] [(0, 1, .tmp 11), (1, 1, .tmp 12)])), .mk (some 14) none (.k (.buildS 46 1 2 [.int .i64 0, .int .i64 0] [(0, .tmp 13)])), .mk (some 15) none (.k (.app 46 2 16 (.tmp 10) (.tmp 14))), .mk (some 16) none (.k (.nilc (.tmp 6))), .mk (some 17) none (.k (.fld 2 (.tmp 16))), .mk none none (.k (.store 1 (.tmp 17) (.tmp 15)))]
abbrev K41 : List Nat := [0, 1, 2]
theorem n41 : Tryz.f41.ntmps = 18 := by kernel_rfl
theorem r41 : resT Tryz.f41.results.toList = some [] := by kernel_rfl
theorem x41 : cmpF Tryz.prog Tryz.f41 = some (expand T41 1 X41) := by kernel_rfl
def T46n0 : XC := .seq (.ops [.mk (some 9) none (.k (.mov (.tmp 0))), .mk (some 2) none (.k (.mov (.tmp 9)))]) .ret
def T46n1 : XC := .ops [.mk (some 52) none (.k (.mov (.tmp 3))), .mk (some 53) none (.k (.arith .add .i64 (.tmp 52) (.const (.int .i64 1)))), .mk (some 3) none (.k (.mov (.tmp 53)))]
def T46n2 : XC := .seq (.ops [.mk (some 45) none (.k (.mov (.tmp 0))), .mk (some 46) none (.k (.mov (.tmp 3))), .mk (some 47) none (.k (.mov (.tmp 4))), .mk (some 48) none (.k (.mov (.tmp 5))), .mk (some 49) none (.k (.idx 2 (.tmp 47) (.tmp 48))), .mk (some 50) none (.k (.load [.int .i64, .int .i64] true (.tmp 49))), .mk (some 51) none (.k (.idx 2 (.tmp 45) (.tmp 46))), .mk none none (.k (.store 2 (.tmp 51) (.tmp 50)))]) (.ref 1)
def T46n3 : XC := .ops [.mk (some 33) none (.k (.mov (.tmp 5))), .mk (some 34) none (.k (.arith .add .i64 (.tmp 33) (.const (.int .i64 1)))), .mk (some 5) none (.k (.mov (.tmp 34)))]
def T46n4 : XC := .seq (.blk 3 (.seq (.ops [.mk (some 35) none (.k (.mov (.tmp 4))), .mk (some 36) none (.k (.mov (.tmp 5))), .mk (some 37) none (.k (.idx 2 (.tmp 35) (.tmp 36))), .mk (some 38) none (.k (.load [.int .i64, .int .i64] true (.tmp 37))), .mk (some 39) none (.k (.mov (.tmp 4))), .mk (some 40) none (.k (.mov (.tmp 5))), .mk (some 41) none (.k (.arith .sub .i64 (.tmp 40) (.const (.int .i64 1)))), .mk (some 42) none (.k (.idx 2 (.tmp 39) (.tmp 41))), .mk (some 43) none (.k (.load [.int .i64, .int .i64] true (.tmp 42))), .mk (some 44) none (.k (.eqa true [.int .i64, .int .i64] (.tmp 38) (.tmp 43)))]) (.cond (.tmp 44) (.ref 2) .skip))) (.ref 3)
def T46n5 : XC := .seq (.seq (.ops [.mk (some 29) none (.k (.mov (.tmp 5))), .mk (some 30) none (.k (.mov (.tmp 4))), .mk (some 31) none (.k (.lenS (.tmp 30))), .mk (some 32) none (.k (.cmp .lss .i64 (.tmp 29) (.tmp 31)))]) (.cond (.tmp 32) .skip (.exit 2))) (.ref 4)
def T46n6 : XC := .seq (.ops [.mk (some 57) none (.k (.mov (.tmp 0))), .mk (some 58) none (.k (.mov (.tmp 3))), .mk (some 59) none (.k (.sub 2 (.tmp 57) none (some (.tmp 58)))), .mk (some 2) none (.k (.mov (.tmp 59)))]) .ret
def T46n7 : XC := .seq (.ops [.mk (some 54) none (.k (.mov (.tmp 0))), .mk (some 55) none (.k (.mov (.tmp 3))), .mk (some 56) none (.k (.sub 2 (.tmp 54) (some (.tmp 55)) none)), .mk none none (.k (.clr 2 [.int .i64 0, .int .i64 0] (.tmp 56)))]) (.ref 6)
def T46n8 : XC := .seq (.seq (.ops [.mk (some 5) none (.k (.mov (.const (.int .i64 1))))]) (.blk 2 (.loop (.ref 5)))) (.ref 7)
def T46n9 : XC := .seq (.ops [.mk (some 26) none (.k (.mov (.tmp 0))), .mk (some 27) none (.k (.mov (.tmp 3))), .mk (some 28) none (.k (.sub 2 (.tmp 26) (some (.tmp 27)) none)), .mk (some 4) none (.k (.mov (.tmp 28)))]) (.ref 8)
def T46n10 : XC := .ops [.mk (some 14) none (.k (.mov (.tmp 3))), .mk (some 15) none (.k (.arith .add .i64 (.tmp 14) (.const (.int .i64 1)))), .mk (some 3) none (.k (.mov (.tmp 15)))]
def T46n11 : XC := .seq (.blk 1 (.seq (.ops [.mk (some 16) none (.k (.mov (.tmp 0))), .mk (some 17) none (.k (.mov (.tmp 3))), .mk (some 18) none (.k (.idx 2 (.tmp 16) (.tmp 17))), .mk (some 19) none (.k (.load [.int .i64, .int .i64] true (.tmp 18))), .mk (some 20) none (.k (.mov (.tmp 0))), .mk (some 21) none (.k (.mov (.tmp 3))), .mk (some 22) none (.k (.arith .sub .i64 (.tmp 21) (.const (.int .i64 1)))), .mk (some 23) none (.k (.idx 2 (.tmp 20) (.tmp 22))), .mk (some 24) none (.k (.load [.int .i64, .int .i64] true (.tmp 23))), .mk (some 25) none (.k (.eqa false [.int .i64, .int .i64] (.tmp 19) (.tmp 24)))]) (.cond (.tmp 25) (.ref 9) .skip))) (.ref 10)
def T46n12 : XC := .seq (.seq (.ops [.mk (some 10) none (.k (.mov (.tmp 3))), .mk (some 11) none (.k (.mov (.tmp 0))), .mk (some 12) none (.k (.lenS (.tmp 11))), .mk (some 13) none (.k (.cmp .lss .i64 (.tmp 10) (.tmp 12)))]) (.cond (.tmp 13) .skip (.exit 0))) (.ref 11)
def T46n13 : XC := .seq (.ops [.mk (some 60) none (.k (.mov (.tmp 0))), .mk (some 2) none (.k (.mov (.tmp 60)))]) .ret
def T46n14 : XC := .seq (.seq (.ops [.mk (some 3) none (.k (.mov (.const (.int .i64 1))))]) (.blk 0 (.loop (.ref 12)))) (.ref 13)
def T46n15 : XC := .seq (.seq (.ops [.mk (some 6) none (.k (.mov (.tmp 0))), .mk (some 7) none (.k (.lenS (.tmp 6))), .mk (some 8) none (.k (.cmp .lss .i64 (.tmp 7) (.const (.int .i64 2))))]) (.cond (.tmp 8) (.ref 0) .skip)) (.ref 14)
def T46 : Nat → XC
 | 0 => T46n0
 | 1 => T46n1
 | 2 => T46n2
 | 3 => T46n3
 | 4 => T46n4
 | 5 => T46n5
 | 6 => T46n6
 | 7 => T46n7
 | 8 => T46n8
 | 9 => T46n9
 | 10 => T46n10
 | 11 => T46n11
 | 12 => T46n12
 | 13 => T46n13
 | 14 => T46n14
 | 15 => T46n15
 | _ => .skip
theorem t46n0 : T46 0 = T46n0 := rfl
theorem t46n1 : T46 1 = T46n1 := rfl
theorem t46n2 : T46 2 = T46n2 := rfl
theorem t46n3 : T46 3 = T46n3 := rfl
theorem t46n4 : T46 4 = T46n4 := rfl
theorem t46n5 : T46 5 = T46n5 := rfl
theorem t46n6 : T46 6 = T46n6 := rfl
theorem t46n7 : T46 7 = T46n7 := rfl
theorem t46n8 : T46 8 = T46n8 := rfl
theorem t46n9 : T46 9 = T46n9 := rfl
theorem t46n10 : T46 10 = T46n10 := rfl
theorem t46n11 : T46 11 = T46n11 := rfl
theorem t46n12 : T46 12 = T46n12 := rfl
theorem t46n13 : T46 13 = T46n13 := rfl
theorem t46n14 : T46 14 = T46n14 := rfl
theorem t46n15 : T46 15 = T46n15 := rfl
def X46 : XC := .seq (.ops [.mk (some 2) none (.k (.mov (.const (.slice none 0 0))))]) (.ref 15)
abbrev K46 : List Nat := [0, 2, 3, 4, 5, 8, 13, 25, 32, 44]
theorem n46 : Tryz.f46.ntmps = 61 := by kernel_rfl
theorem r46 : resT Tryz.f46.results.toList = some [2] := by kernel_rfl
theorem x46 : cmpF Tryz.prog Tryz.f46 = some (expand T46 17 X46) := by kernel_rfl
def T72n0 : XC := .seq (.ops [.mk (some 11) none (.k (.fld 1 (.tmp 1))), .mk (some 12) none (.k (.load [.int .i64] false (.tmp 11))), .mk (some 13) none (.k (.buildS 3 1 1 [.int .i64 0] [(0, .tmp 12)])), .mk (some 14) none (.call 74 [.tmp 13]), .mk (some 2) none (.k (.mov (.tmp 14)))]) .ret
def T72n1 : XC := .seq (.ops [.mk (some 2) none (.k (.mov (.const (.int .u8 0))))]) .ret
def T72n2 : XC := .seq (.seq (.ops [.mk (some 3) none (.k (.fld 0 (.tmp 1))), .mk (some 4) none (.k (.load [.int .i64] false (.tmp 3))), .mk (some 5) none (.k (.cmp .geq .i64 (.tmp 4) (.const (.int .i64 2)))), .mk (some 6) none (.k (.mov (.tmp 5))), .mk (some 7) (some (6, true)) (.k (.fld 0 (.tmp 1))), .mk (some 8) (some (6, true)) (.k (.load [.int .i64] false (.tmp 7))), .mk (some 9) (some (6, true)) (.k (.cmp .leq .i64 (.tmp 8) (.const (.int .i64 11)))), .mk (some 10) none (.k (.pick (.tmp 6) (.tmp 9) (.const (.bool false))))]) (.cond (.tmp 10) (.ref 0) .skip)) (.ref 1)
def T72 : Nat → XC
 | 0 => T72n0
 | 1 => T72n1
 | 2 => T72n2
 | _ => .skip
theorem t72n0 : T72 0 = T72n0 := rfl
theorem t72n1 : T72 1 = T72n1 := rfl
theorem t72n2 : T72 2 = T72n2 := rfl
def X72 : XC := .seq (.ops [.mk (some 1) none (.k (.box 41 5 (.tmp 0))), .mk (some 2) none (.k (.mov (.const (.int .u8 0))))]) (.ref 2)
abbrev K72 : List Nat := [0, 1, 2, 10]
theorem n72 : Tryz.f72.ntmps = 15 := by kernel_rfl
theorem r72 : resT Tryz.f72.results.toList = some [2] := by kernel_rfl
theorem x72 : cmpF Tryz.prog Tryz.f72 = some (expand T72 4 X72) := by kernel_rfl
def T73n0 : XC := .seq (.ops [.mk (some 14) none (.k (.mkfn (.func 103) [] [.tmp 3, .tmp 5, .tmp 2])), .mk (some 4) none (.k (.mov (.tmp 14)))]) .ret
def T73n1 : XC := .seq (.ops [.mk (some 6) none (.k (.load [.ptr] false (.tmp 2))), .mk (some 7) none (.k (.nilc (.tmp 6))), .mk (some 8) none (.k (.fld 0 (.tmp 7))), .mk (some 9) none (.k (.load [.slc] false (.tmp 8))), .mk (some 10) none (.k (.fld 0 (.tmp 3))), .mk (some 11) none (.k (.load [.int .i64] false (.tmp 10))), .mk (some 12) none (.k (.idx 5 (.tmp 9) (.tmp 11))), .mk (some 13) none (.k (.load [.int .i64, .int .i64, .int .i64, .int .i64, .int .i64] true (.tmp 12))), .mk (some 5) none (.k (.alloc 41 [.int .i64 0, .int .i64 0, .int .i64 0, .int .i64 0, .int .i64 0])), .mk none none (.k (.store 5 (.tmp 5) (.tmp 13)))]) (.ref 0)
def T73 : Nat → XC
 | 0 => T73n0
 | 1 => T73n1
 | _ => .skip
theorem t73n0 : T73 0 = T73n0 := rfl
theorem t73n1 : T73 1 = T73n1 := rfl
def X73 : XC := .seq (.ops [.mk (some 2) none (.k (.box 73 1 (.tmp 0))), .mk (some 3) none (.k (.box 79 2 (.tmp 1))), .mk (some 4) none (.k (.mov (.const .nilFunc)))]) (.ref 1)
abbrev K73 : List Nat := [0, 1, 2, 3, 4, 5]
theorem n73 : Tryz.f73.ntmps = 15 := by kernel_rfl
theorem r73 : resT Tryz.f73.results.toList = some [4] := by kernel_rfl
theorem x73 : cmpF Tryz.prog Tryz.f73 = some (expand T73 3 X73) := by kernel_rfl
def T74n0 : XC := .ops [.mk (some 11) none (.k (.mov (.tmp 2))), .mk (some 12) none (.k (.mov (.tmp 4))), .mk (some 13) none (.k (.shift .shl .u8 (.const (.int .u8 1)) (.tmp 12))), .mk (some 14) none (.k (.bits .or .u8 (.tmp 11) (.tmp 13))), .mk (some 2) none (.k (.mov (.tmp 14)))]
def T74n1 : XC := .seq (.blk 1 (.seq (.ops [.mk (some 9) none (.k (.idx 1 (.tmp 5) (.tmp 7))), .mk (some 10) none (.k (.load [.int .i64] false (.tmp 9))), .mk (some 4) none (.k (.mov (.tmp 10)))]) (.ref 0))) (.ops [.mk (some 15) none (.k (.arith .add .i64 (.tmp 7) (.const (.int .i64 1)))), .mk (some 7) none (.k (.mov (.tmp 15)))])
def T74n2 : XC := .seq (.cond (.tmp 8) .skip (.exit 0)) (.ref 1)
def T74n3 : XC := .seq (.ops [.mk (some 8) none (.k (.cmp .lss .i64 (.tmp 7) (.tmp 6)))]) (.ref 2)
def T74n4 : XC := .seq (.ops [.mk (some 16) none (.k (.mov (.tmp 2))), .mk (some 2) none (.k (.mov (.tmp 16)))]) .ret
def T74n5 : XC := .seq (.seq (.ops [.mk (some 5) none (.k (.mov (.tmp 0))), .mk (some 6) none (.k (.lenS (.tmp 5))), .mk (some 7) none (.k (.mov (.const (.int .i64 0))))]) (.blk 0 (.loop (.ref 3)))) (.ref 4)
def T74 : Nat → XC
 | 0 => T74n0
 | 1 => T74n1
 | 2 => T74n2
 | 3 => T74n3
 | 4 => T74n4
 | 5 => T74n5
 | _ => .skip
theorem t74n0 : T74 0 = T74n0 := rfl
theorem t74n1 : T74 1 = T74n1 := rfl
theorem t74n2 : T74 2 = T74n2 := rfl
theorem t74n3 : T74 3 = T74n3 := rfl
theorem t74n4 : T74 4 = T74n4 := rfl
theorem t74n5 : T74 5 = T74n5 := rfl
def X74 : XC := .seq (.ops [.mk (some 2) none (.k (.mov (.const (.int .u8 0))))]) (.ref 5)
abbrev K74 : List Nat := [0, 2, 4, 5, 6, 7, 8]
theorem n74 : Tryz.f74.ntmps = 17 := by kernel_rfl
theorem r74 : resT Tryz.f74.results.toList = some [2] := by kernel_rfl
theorem x74 : cmpF Tryz.prog Tryz.f74 = some (expand T74 7 X74) := by kernel_rfl
def T103n0 : XC := .ops [.mk (some 18) none (.k (.load [.ptr] false (.tmp 3))), .mk (some 19) none (.k (.fld 0 (.tmp 1))), .mk (some 20) none (.k (.load [.int .i64] false (.tmp 19))), .mk (some 21) none (.call 41 [.tmp 18, .const (.int .i64 4), .tmp 20])]
def T103n1 : XC := .seq (.seq (.ops [.mk (some 16) none (.k (.fld 1 (.tmp 1))), .mk (some 17) none (.k (.load [.bool] false (.tmp 16)))]) (.cond (.tmp 17) (.ref 0) .skip)) .ret
def T103n2 : XC := .seq (.ops [.mk (some 30) none (.k (.load [.ptr] false (.tmp 3))), .mk (some 31) none (.k (.fld 0 (.tmp 1))), .mk (some 32) none (.k (.load [.int .i64] false (.tmp 31))), .mk (some 33) none (.call 41 [.tmp 30, .const (.int .i64 3), .tmp 32])]) .ret
def T103n3 : XC := .seq (.ops [.mk (some 43) none (.k (.load [.ptr] false (.tmp 3))), .mk (some 44) none (.k (.fld 0 (.tmp 1))), .mk (some 45) none (.k (.load [.int .i64] false (.tmp 44))), .mk (some 46) none (.call 41 [.tmp 43, .const (.int .i64 2), .tmp 45])]) .ret
def T103n4 : XC := .ops [.mk (some 56) none (.k (.fld 1 (.tmp 1))), .mk (some 57) none (.k (.load [.bool] false (.tmp 56))), .mk (some 58) none (.k (.not (.tmp 57))), .mk (some 59) none (.k (.fld 1 (.tmp 5))), .mk none none (.k (.store 1 (.tmp 59) (.tmp 58)))]
def T103n5 : XC := .ops [.mk (some 77) none (.k (.load [.ptr] false (.tmp 3))), .mk (some 78) none (.k (.fld 0 (.tmp 1))), .mk (some 79) none (.k (.load [.int .i64] false (.tmp 78))), .mk (some 80) none (.call 41 [.tmp 77, .const (.int .i64 6), .tmp 79])]
def T103n6 : XC := .seq (.ops [.mk (some 81) none (.k (.mov (.tmp 0))), .mk (some 82) none (.k (.fld 4 (.tmp 2))), .mk (some 83) none (.k (.load [.int .i64] false (.tmp 82))), .mk (some 84) none (.k (.fld 1 (.tmp 1))), .mk (some 85) none (.k (.load [.bool] false (.tmp 84))), .mk (some 86) none (.k (.build [.int .i64 0, .bool false] [(0, 1, .tmp 83), (1, 1, .tmp 85)])), .mk (some 87) none (.callv (.tmp 81) [.tmp 86]), .mk (some 88) none (.k (.not (.tmp 87)))]) (.cond (.tmp 88) .ret .skip)
def T103n7 : XC := .seq (.ops [.mk (some 89) none (.k (.fld 0 (.tmp 2))), .mk (some 90) none (.k (.load [.int .i64] false (.tmp 89))), .mk (some 91) none (.k (.cmp .eql .i64 (.tmp 90) (.const (.int .i64 13))))]) (.cond (.tmp 91) .ret .skip)
def T103n8 : XC := .seq (.seq (.ops [.mk (some 69) none (.k (.fld 4 (.tmp 2))), .mk (some 70) none (.k (.load [.int .i64] false (.tmp 69))), .mk (some 71) none (.k (.cmp .lss .i64 (.tmp 70) (.const (.int .i64 0)))), .mk (some 72) none (.k (.mov (.tmp 71))), .mk (some 73) (some (72, false)) (.k (.fld 4 (.tmp 2))), .mk (some 74) (some (72, false)) (.k (.load [.int .i64] false (.tmp 73))), .mk (some 75) (some (72, false)) (.k (.cmp .gtr .i64 (.tmp 74) (.const (.int .i64 1024)))), .mk (some 76) none (.k (.pick (.tmp 72) (.const (.bool true)) (.tmp 75)))]) (.cond (.tmp 76) (.ref 5) (.ref 6))) (.ref 7)
def T103n9 : XC := .seq (.ops [.mk (some 61) none (.k (.fld 0 (.tmp 2))), .mk (some 62) none (.k (.load [.int .i64] false (.tmp 61))), .mk (some 63) none (.k (.cmp .geq .i64 (.tmp 62) (.const (.int .i64 13)))), .mk (some 64) none (.k (.mov (.tmp 63))), .mk (some 65) (some (64, true)) (.k (.fld 0 (.tmp 2))), .mk (some 66) (some (64, true)) (.k (.load [.int .i64] false (.tmp 65))), .mk (some 67) (some (64, true)) (.k (.cmp .leq .i64 (.tmp 66) (.const (.int .i64 16)))), .mk (some 68) none (.k (.pick (.tmp 64) (.tmp 67) (.const (.bool false)))), .mk (some 60) none (.k (.mov (.tmp 68)))]) (.cond (.tmp 60) (.ref 8) .skip)
def T103n10 : XC := .seq (.ops [.mk (some 48) none (.k (.fld 0 (.tmp 2))), .mk (some 49) none (.k (.load [.int .i64] false (.tmp 48))), .mk (some 50) none (.k (.cmp .eql .i64 (.tmp 49) (.const (.int .i64 17)))), .mk (some 51) none (.k (.mov (.tmp 50))), .mk (some 52) (some (51, false)) (.k (.fld 0 (.tmp 2))), .mk (some 53) (some (51, false)) (.k (.load [.int .i64] false (.tmp 52))), .mk (some 54) (some (51, false)) (.k (.cmp .eql .i64 (.tmp 53) (.const (.int .i64 18)))), .mk (some 55) none (.k (.pick (.tmp 51) (.const (.bool true)) (.tmp 54))), .mk (some 47) none (.k (.mov (.tmp 55)))]) (.cond (.tmp 47) (.ref 4) (.ref 9))
def T103n11 : XC := .seq (.ops [.mk (some 35) none (.k (.fld 0 (.tmp 2))), .mk (some 36) none (.k (.load [.int .i64] false (.tmp 35))), .mk (some 37) none (.k (.cmp .eql .i64 (.tmp 36) (.const (.int .i64 18)))), .mk (some 38) none (.k (.mov (.tmp 37))), .mk (some 39) (some (38, true)) (.k (.fld 1 (.tmp 1))), .mk (some 40) (some (38, true)) (.k (.load [.bool] false (.tmp 39))), .mk (some 41) (some (38, true)) (.k (.not (.tmp 40))), .mk (some 42) none (.k (.pick (.tmp 38) (.tmp 41) (.const (.bool false)))), .mk (some 34) none (.k (.mov (.tmp 42)))]) (.cond (.tmp 34) (.ref 3) (.ref 10))
def T103n12 : XC := .seq (.ops [.mk (some 23) none (.k (.fld 0 (.tmp 2))), .mk (some 24) none (.k (.load [.int .i64] false (.tmp 23))), .mk (some 25) none (.k (.cmp .eql .i64 (.tmp 24) (.const (.int .i64 17)))), .mk (some 26) none (.k (.mov (.tmp 25))), .mk (some 27) (some (26, true)) (.k (.fld 1 (.tmp 1))), .mk (some 28) (some (26, true)) (.k (.load [.bool] false (.tmp 27))), .mk (some 29) none (.k (.pick (.tmp 26) (.tmp 28) (.const (.bool false)))), .mk (some 22) none (.k (.mov (.tmp 29)))]) (.cond (.tmp 22) (.ref 2) (.ref 11))
def T103n13 : XC := .ops [.mk (some 92) none (.k (.mov (.tmp 0))), .mk (some 93) none (.k (.load [.int .i64, .bool] true (.tmp 5))), .mk (some 94) none (.callv (.tmp 92) [.tmp 93])]
def T103n14 : XC := .seq (.blk 0 (.seq (.ops [.mk (some 13) none (.k (.fld 0 (.tmp 2))), .mk (some 14) none (.k (.load [.int .i64] false (.tmp 13))), .mk (some 15) none (.k (.cmp .eql .i64 (.tmp 14) (.const (.int .i64 1)))), .mk (some 12) none (.k (.mov (.tmp 15)))]) (.cond (.tmp 12) (.ref 1) (.ref 12)))) (.ref 13)
def T103 : Nat → XC
 | 0 => T103n0
 | 1 => T103n1
 | 2 => T103n2
 | 3 => T103n3
 | 4 => T103n4
 | 5 => T103n5
 | 6 => T103n6
 | 7 => T103n7
 | 8 => T103n8
 | 9 => T103n9
 | 10 => T103n10
 | 11 => T103n11
 | 12 => T103n12
 | 13 => T103n13
 | 14 => T103n14
 | _ => .skip
theorem t103n0 : T103 0 = T103n0 := rfl
theorem t103n1 : T103 1 = T103n1 := rfl
theorem t103n2 : T103 2 = T103n2 := rfl
theorem t103n3 : T103 3 = T103n3 := rfl
theorem t103n4 : T103 4 = T103n4 := rfl
theorem t103n5 : T103 5 = T103n5 := rfl
theorem t103n6 : T103 6 = T103n6 := rfl
theorem t103n7 : T103 7 = T103n7 := rfl
theorem t103n8 : T103 8 = T103n8 := rfl
theorem t103n9 : T103 9 = T103n9 := rfl
theorem t103n10 : T103 10 = T103n10 := rfl
theorem t103n11 : T103 11 = T103n11 := rfl
theorem t103n12 : T103 12 = T103n12 := rfl
theorem t103n13 : T103 13 = T103n13 := rfl
theorem t103n14 : T103 14 = T103n14 := rfl
def X103 : XC := .seq (.ops [.mk (some 6) none (.k (.fld 0 (.tmp 1))), .mk (some 7) none (.k (.load [.int .i64] false (.tmp 6))), .mk (some 8) none (.k (.arith .add .i64 (.tmp 7) (.const (.int .i64 1)))), .mk (some 9) none (.k (.fld 1 (.tmp 1))), .mk (some 10) none (.k (.load [.bool] false (.tmp 9))), .mk (some 11) none (.k (.build [.int .i64 0, .bool false] [(0, 1, .tmp 8), (1, 1, .tmp 10)])), .mk (some 5) none (.k (.alloc 79 [.int .i64 0, .bool false])), .mk none none (.k (.store 2 (.tmp 5) (.tmp 11)))]) (.ref 14)
abbrev K103 : List Nat := [0, 1, 2, 3, 5, 12, 17, 22, 34, 47, 60, 76, 88, 91]
theorem n103 : Tryz.f103.ntmps = 95 := by kernel_rfl
theorem r103 : resT Tryz.f103.results.toList = some [] := by kernel_rfl
theorem x103 : cmpF Tryz.prog Tryz.f103 = some (expand T103 16 X103) := by kernel_rfl
end Go.Proofs.YtlbiogokpadaoaaGreatDoor
