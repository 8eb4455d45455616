/- Printed by program: the small code of functions, and that it is theirs. -/
import Derived.Test.YtgghmmjoplddbaaDoorSxStill
import Derived.Test.YtgghmmjoplddbaaDoorProg
import Derived.KernelRfl
set_option linter.unusedSimpArgs false
set_option linter.unusedVariables false
set_option linter.unnecessarySimpa false
namespace Go.Proofs.YtgghmmjoplddbaaDoor
open Go Go.Sx
set_option maxRecDepth 100000
def T11n0 : XC := .seq (.ops [.mk (some 2) none (.k (.mov (.const (.slice none 0 0)))), .mk (some 3) none (.k (.mov (.const (.int .i64 2))))]) .ret
def T11n1 : XC := .ops [.mk (some 61) none (.k (.mov (.tmp 4))), .mk (some 62) none (.k (.mov (.tmp 5))), .mk (some 63) none (.call 26 [.tmp 61, .const (.int .i64 7), .tmp 62])]
def T11n2 : XC := .seq (.ops [.mk (some 49) none (.k (.mov (.tmp 11))), .mk (some 50) none (.k (.mov (.tmp 49))), .mk (some 51) (some (50, true)) (.k (.load [.int .i64, .int .i64, .int .i64, .int .i64, .int .i64] true (.tmp 6))), .mk (some 52) (some (50, true)) (.call 24 [.tmp 51]), .mk (some 53) none (.k (.pick (.tmp 50) (.tmp 52) (.const (.bool false)))), .mk (some 54) none (.k (.mov (.tmp 53))), .mk (some 55) (some (54, true)) (.k (.load [.int .i64, .int .i64, .int .i64, .int .i64, .int .i64] true (.tmp 6))), .mk (some 56) (some (54, true)) (.call 25 [.tmp 55]), .mk (some 57) (some (54, true)) (.k (.mov (.tmp 10))), .mk (some 58) (some (54, true)) (.k (.bits .andNot .u8 (.tmp 56) (.tmp 57))), .mk (some 59) (some (54, true)) (.k (.cmp .neq .u8 (.tmp 58) (.const (.int .u8 0)))), .mk (some 60) none (.k (.pick (.tmp 54) (.tmp 59) (.const (.bool false))))]) (.cond (.tmp 60) (.ref 1) .skip)
def T11n3 : XC := .seq (.ops [.mk (some 45) none (.k (.mov (.tmp 7))), .mk (some 46) none (.k (.mov (.tmp 45))), .mk (some 47) (some (46, false)) (.k (.mov (.tmp 11))), .mk (some 48) none (.k (.pick (.tmp 46) (.const (.bool true)) (.tmp 47))), .mk (some 7) none (.k (.mov (.tmp 48)))]) (.ref 2)
def T11n4 : XC := .seq (.ops [.mk (some 35) none (.k (.mov (.tmp 4))), .mk (some 36) none (.k (.nilc (.tmp 35))), .mk (some 37) none (.k (.fld 1 (.tmp 36))), .mk (some 38) none (.k (.load [.map] false (.tmp 37))), .mk (some 39) none (.k (.mov (.tmp 5))), .mk (some 40) none (.k (.mov (.tmp 9))), .mk (some 41) none (.k (.build [.int .i64 0, .bool false] [(0, 1, .tmp 39), (1, 1, .tmp 40)])), .mk (some 42) none (.k (.lkupA [.int .i64, .bool] (.int .u8 0) true (.tmp 38) (.tmp 41))), .mk (some 34) none (.k (.mov (.tmp 42))), .mk (some 43) none (.k (.ext (.tmp 34) 0)), .mk (some 44) none (.k (.ext (.tmp 34) 1)), .mk (some 10) none (.k (.mov (.tmp 43))), .mk (some 11) none (.k (.mov (.tmp 44)))]) (.ref 3)
def T11n5 : XC := .seq (.blk 3 (.seq (.ops [.mk (some 32) none (.k (.idx 1 (.tmp 28) (.tmp 30))), .mk (some 33) none (.k (.load [.bool] false (.tmp 32))), .mk (some 9) none (.k (.mov (.tmp 33)))]) (.ref 4))) (.ops [.mk (some 64) none (.k (.arith .add .i64 (.tmp 30) (.const (.int .i64 1)))), .mk (some 30) none (.k (.mov (.tmp 64)))])
def T11n6 : XC := .seq (.cond (.tmp 31) .skip (.exit 2)) (.ref 5)
def T11n7 : XC := .seq (.ops [.mk (some 31) none (.k (.cmp .lss .i64 (.tmp 30) (.tmp 29)))]) (.ref 6)
def T11n8 : XC := .ops [.mk (some 67) none (.k (.mov (.tmp 4))), .mk (some 68) none (.k (.mov (.tmp 5))), .mk (some 69) none (.call 26 [.tmp 67, .const (.int .i64 8), .tmp 68])]
def T11n9 : XC := .seq (.ops [.mk (some 65) none (.k (.mov (.tmp 7))), .mk (some 66) none (.k (.not (.tmp 65)))]) (.cond (.tmp 66) (.ref 8) .skip)
def T11n10 : XC := .seq (.seq (.ops [.mk (some 28) none (.k (.buildS 4 2 1 [.bool false] [(0, .const (.bool false)), (1, .const (.bool true))])), .mk (some 29) none (.k (.lenS (.tmp 28))), .mk (some 30) none (.k (.mov (.const (.int .i64 0))))]) (.blk 2 (.loop (.ref 7)))) (.ref 9)
def T11n11 : XC := .seq (.ops [.mk (some 7) none (.k (.mov (.const (.bool false))))]) (.ref 10)
def T11n12 : XC := .seq (.blk 1 (.seq (.ops [.mk (some 25) none (.k (.mov (.tmp 23))), .mk (some 26) none (.k (.idx 5 (.tmp 21) (.tmp 23))), .mk (some 27) none (.k (.load [.int .i64, .int .i64, .int .i64, .int .i64, .int .i64] true (.tmp 26))), .mk (some 6) none (.k (.alloc 37 [.int .i64 0, .int .i64 0, .int .i64 0, .int .i64 0, .int .i64 0])), .mk (some 5) none (.k (.mov (.tmp 25))), .mk none none (.k (.store 5 (.tmp 6) (.tmp 27)))]) (.ref 11))) (.ops [.mk (some 70) none (.k (.arith .add .i64 (.tmp 23) (.const (.int .i64 1)))), .mk (some 23) none (.k (.mov (.tmp 70)))])
def T11n13 : XC := .seq (.cond (.tmp 24) .skip (.exit 0)) (.ref 12)
def T11n14 : XC := .seq (.ops [.mk (some 24) none (.k (.cmp .lss .i64 (.tmp 23) (.tmp 22)))]) (.ref 13)
def T11n15 : XC := .seq (.ops [.mk (some 76) none (.k (.mov (.tmp 4))), .mk (some 77) none (.k (.nilc (.tmp 76))), .mk (some 78) none (.k (.fld 2 (.tmp 77))), .mk (some 79) none (.k (.load [.slc] false (.tmp 78))), .mk (some 80) none (.call 31 [.tmp 79]), .mk (some 2) none (.k (.mov (.tmp 80))), .mk (some 3) none (.k (.mov (.const (.int .i64 0))))]) .ret
def T11n16 : XC := .seq (.ops [.mk (some 71) none (.k (.mov (.tmp 4))), .mk (some 72) none (.k (.nilc (.tmp 71))), .mk (some 73) none (.k (.fld 2 (.tmp 72))), .mk (some 74) none (.k (.load [.slc] false (.tmp 73))), .mk (some 75) none (.call 27 [.tmp 74, .func 28])]) (.ref 15)
def T11n17 : XC := .seq (.seq (.ops [.mk (some 21) none (.k (.mov (.tmp 0))), .mk (some 22) none (.k (.lenS (.tmp 21))), .mk (some 23) none (.k (.mov (.const (.int .i64 0))))]) (.blk 0 (.loop (.ref 14)))) (.ref 16)
def T11n18 : XC := .seq (.ops [.mk (some 19) none (.k (.mov (.tmp 4))), .mk (some 20) none (.call 23 [.tmp 19])]) (.ref 17)
def T11n19 : XC := .seq (.ops [.mk (some 15) none (.k (.mov (.tmp 0))), .mk (some 16) none (.k .mkmap), .mk (some 17) none (.k (.build [.slice none 0 0, .map none, .slice none 0 0] [(0, 1, .tmp 15), (1, 1, .tmp 16)])), .mk (some 18) none (.k (.box 64 3 (.tmp 17))), .mk (some 4) none (.k (.mov (.tmp 18)))]) (.ref 18)
def T11n20 : XC := .seq (.seq (.ops [.mk (some 12) none (.k (.mov (.tmp 0))), .mk (some 13) none (.k (.lenS (.tmp 12))), .mk (some 14) none (.k (.cmp .gtr .i64 (.tmp 13) (.const (.int .i64 1024))))]) (.cond (.tmp 14) (.ref 0) .skip)) (.ref 19)
def T11 : Nat → XC
 | 0 => T11n0
 | 1 => T11n1
 | 2 => T11n2
 | 3 => T11n3
 | 4 => T11n4
 | 5 => T11n5
 | 6 => T11n6
 | 7 => T11n7
 | 8 => T11n8
 | 9 => T11n9
 | 10 => T11n10
 | 11 => T11n11
 | 12 => T11n12
 | 13 => T11n13
 | 14 => T11n14
 | 15 => T11n15
 | 16 => T11n16
 | 17 => T11n17
 | 18 => T11n18
 | 19 => T11n19
 | 20 => T11n20
 | _ => .skip
theorem t11n0 : T11 0 = T11n0 := rfl
theorem t11n1 : T11 1 = T11n1 := rfl
theorem t11n2 : T11 2 = T11n2 := rfl
theorem t11n3 : T11 3 = T11n3 := rfl
theorem t11n4 : T11 4 = T11n4 := rfl
theorem t11n5 : T11 5 = T11n5 := rfl
theorem t11n6 : T11 6 = T11n6 := rfl
theorem t11n7 : T11 7 = T11n7 := rfl
theorem t11n8 : T11 8 = T11n8 := rfl
theorem t11n9 : T11 9 = T11n9 := rfl
theorem t11n10 : T11 10 = T11n10 := rfl
theorem t11n11 : T11 11 = T11n11 := rfl
theorem t11n12 : T11 12 = T11n12 := rfl
theorem t11n13 : T11 13 = T11n13 := rfl
theorem t11n14 : T11 14 = T11n14 := rfl
theorem t11n15 : T11 15 = T11n15 := rfl
theorem t11n16 : T11 16 = T11n16 := rfl
theorem t11n17 : T11 17 = T11n17 := rfl
theorem t11n18 : T11 18 = T11n18 := rfl
theorem t11n19 : T11 19 = T11n19 := rfl
theorem t11n20 : T11 20 = T11n20 := rfl
def X11 : XC := .seq (.ops [.mk (some 2) none (.k (.mov (.const (.slice none 0 0)))), .mk (some 3) none (.k (.mov (.const (.int .i64 0))))]) (.ref 20)
abbrev K11 : List Nat := [0, 2, 3, 4, 5, 6, 7, 9, 10, 11, 14, 21, 22, 23, 24, 28, 29, 30, 31, 60, 66]
theorem n11 : Tryd.f11.ntmps = 81 := by kernel_rfl
theorem r11 : resT Tryd.f11.results.toList = some [2, 3] := by kernel_rfl
theorem x11 : cmpF Tryd.prog Tryd.f11 = some (expand T11 22 X11) := by kernel_rfl
def T23n0 : XC := .seq (.ops [.mk (some 43) none (.k (.load [.ptr] false (.tmp 1))), .mk (some 44) none (.k (.fld 0 (.tmp 3))), .mk (some 45) none (.k (.load [.int .i64] false (.tmp 44))), .mk (some 46) none (.call 26 [.tmp 43, .const (.int .i64 1), .tmp 45])]) (.exit 1)
def T23n1 : XC := .ops [.mk (some 72) none (.k (.load [.ptr] false (.tmp 1))), .mk (some 73) none (.k (.fld 0 (.tmp 3))), .mk (some 74) none (.k (.load [.int .i64] false (.tmp 73))), .mk (some 75) none (.call 26 [.tmp 72, .const (.int .i64 5), .tmp 74])]
def T23n2 : XC := .cond (.tmp 86) (.ops [.mk (some 7) none (.k (.mov (.const (.int .u8 255))))]) .skip
def T23n3 : XC := .ops [.mk (some 104) none (.k (.load [.slc] false (.tmp 2))), .mk (some 105) none (.k (.load [.int .i64, .bool] true (.tmp 6))), .mk (some 106) none (.k (.buildS 67 1 2 [.int .i64 0, .bool false] [(0, .tmp 105)])), .mk (some 107) none (.k (.app 67 2 16 (.tmp 104) (.tmp 106))), .mk none none (.k (.store 1 (.tmp 2) (.tmp 107)))]
def T23n4 : XC := .seq (.ops [.mk (some 96) none (.k (.load [.ptr] false (.tmp 1))), .mk (some 97) none (.k (.nilc (.tmp 96))), .mk (some 98) none (.k (.fld 1 (.tmp 97))), .mk (some 99) none (.k (.load [.map] false (.tmp 98))), .mk (some 100) none (.k (.load [.int .i64, .bool] true (.tmp 6))), .mk (some 101) none (.k (.mov (.tmp 7))), .mk (some 102) none (.k (.load [.int .u8] false (.tmp 5))), .mk (some 103) none (.k (.bits .and .u8 (.tmp 101) (.tmp 102))), .mk none none (.k (.mupdA [.int .i64, .bool] (.tmp 99) (.tmp 100) (.tmp 103)))]) (.ref 3)
def T23n5 : XC := .seq (.ops [.mk (some 87) none (.k (.mov (.tmp 8))), .mk (some 88) none (.k (.not (.tmp 87))), .mk (some 89) none (.k (.mov (.tmp 88))), .mk (some 90) (some (89, false)) (.k (.mov (.tmp 7))), .mk (some 91) (some (89, false)) (.k (.load [.int .u8] false (.tmp 5))), .mk (some 92) (some (89, false)) (.k (.bits .and .u8 (.tmp 90) (.tmp 91))), .mk (some 93) (some (89, false)) (.k (.mov (.tmp 7))), .mk (some 94) (some (89, false)) (.k (.cmp .neq .u8 (.tmp 92) (.tmp 93))), .mk (some 95) none (.k (.pick (.tmp 89) (.const (.bool true)) (.tmp 94)))]) (.cond (.tmp 95) (.ref 4) .skip)
def T23n6 : XC := .seq (.seq (.ops [.mk (some 85) none (.k (.mov (.tmp 8))), .mk (some 86) none (.k (.not (.tmp 85)))]) (.ref 2)) (.ref 5)
def T23n7 : XC := .seq (.ops [.mk (some 77) none (.k (.load [.ptr] false (.tmp 1))), .mk (some 78) none (.k (.nilc (.tmp 77))), .mk (some 79) none (.k (.fld 1 (.tmp 78))), .mk (some 80) none (.k (.load [.map] false (.tmp 79))), .mk (some 81) none (.k (.load [.int .i64, .bool] true (.tmp 6))), .mk (some 82) none (.k (.lkupA [.int .i64, .bool] (.int .u8 0) true (.tmp 80) (.tmp 81))), .mk (some 76) none (.k (.mov (.tmp 82))), .mk (some 83) none (.k (.ext (.tmp 76) 0)), .mk (some 84) none (.k (.ext (.tmp 76) 1)), .mk (some 7) none (.k (.mov (.tmp 83))), .mk (some 8) none (.k (.mov (.tmp 84)))]) (.ref 6)
def T23n8 : XC := .blk 3 (.seq (.seq (.ops [.mk (some 60) none (.k (.fld 1 (.tmp 6))), .mk (some 61) none (.k (.load [.bool] false (.tmp 60))), .mk (some 62) none (.k (.mov (.tmp 61))), .mk (some 63) (some (62, true)) (.k (.fld 0 (.tmp 6))), .mk (some 64) (some (62, true)) (.k (.load [.int .i64] false (.tmp 63))), .mk (some 65) (some (62, true)) (.k (.load [.ptr] false (.tmp 1))), .mk (some 66) (some (62, true)) (.k (.nilc (.tmp 65))), .mk (some 67) (some (62, true)) (.k (.fld 0 (.tmp 66))), .mk (some 68) (some (62, true)) (.k (.load [.slc] false (.tmp 67))), .mk (some 69) (some (62, true)) (.k (.lenS (.tmp 68))), .mk (some 70) (some (62, true)) (.k (.cmp .geq .i64 (.tmp 64) (.tmp 69))), .mk (some 71) none (.k (.pick (.tmp 62) (.tmp 70) (.const (.bool false))))]) (.cond (.tmp 71) (.ref 1) .skip)) (.ref 7))
def T23n9 : XC := .blk 2 (.rng (.tmp 58) [59] (.ops [.mk (some 6) none (.k (.alloc 67 [.int .i64 0, .bool false])), .mk none none (.k (.store 2 (.tmp 6) (.tmp 59)))]) (.ref 8))
def T23n10 : XC := .seq (.ops [.mk (some 56) none (.k (.load [.ptr] false (.tmp 1))), .mk (some 57) none (.k (.load [.int .i64, .bool] true (.tmp 3))), .mk (some 58) none (.call 46 [.tmp 56, .tmp 57])]) (.ref 9)
def T23n11 : XC := .seq (.seq (.ops [.mk (some 40) none (.k (.load [.int .i64, .int .i64, .int .i64, .int .i64, .int .i64] true (.tmp 4))), .mk (some 41) none (.call 24 [.tmp 40]), .mk (some 42) none (.k (.not (.tmp 41)))]) (.cond (.tmp 42) (.ref 0) .skip)) (.seq (.alt 11 (.seq (.mk (some 47) none (.k (.load [.ptr] false (.tmp 1)))) 0 (.seq (.mk (some 48) none (.k (.nilc (.tmp 47)))) 1 (.seq (.mk (some 49) none (.k (.fld 1 (.tmp 48)))) 2 (.seq (.mk (some 50) none (.k (.load [.map] false (.tmp 49)))) 3 (.seq (.mk (some 51) none (.k (.load [.int .i64, .bool] true (.tmp 3)))) 4 (.seq (.mk (some 52) none (.k (.lkupA [.int .i64, .bool] (.int .u8 0) false (.tmp 50) (.tmp 51)))) 5 (.seq (.mk (some 53) none (.k (.load [.int .i64, .int .i64, .int .i64, .int .i64, .int .i64] true (.tmp 4)))) 6 (.alt (.seq (.mk (some 54) none (.call 45 [.tmp 53])) 7 (.seq (.mk none none (.still 47 (.load [.ptr] false (.tmp 1)))) 0 (.seq (.mk none none (.still 50 (.load [.map] false (.tmp 49)))) 3 (.seq (.mk none none (.still 51 (.load [.int .i64, .bool] true (.tmp 3)))) 4 (.seq (.mk none none (.still 52 (.lkupA [.int .i64, .bool] (.int .u8 0) false (.tmp 50) (.tmp 51)))) 5 (.seq (.mk (some 55) none (.k (.bits .or .u8 (.tmp 52) (.tmp 54)))) 8 (.seq (.mk (some 5) none (.k (.alloc 5 [.int .u8 0]))) 9 (.seq (.mk none none (.k (.store 1 (.tmp 5) (.tmp 55)))) 10 .done)))))))) (.seq (.mk (some 5) none (.k (.alloc 5 [.int .u8 0]))) 9 (.seq (.mk (some 54) none (.call 45 [.tmp 53])) 7 (.seq (.mk none none (.still 47 (.load [.ptr] false (.tmp 1)))) 0 (.seq (.mk none none (.still 50 (.load [.map] false (.tmp 49)))) 3 (.seq (.mk none none (.still 51 (.load [.int .i64, .bool] true (.tmp 3)))) 4 (.seq (.mk none none (.still 52 (.lkupA [.int .i64, .bool] (.int .u8 0) false (.tmp 50) (.tmp 51)))) 5 (.seq (.mk (some 55) none (.k (.bits .or .u8 (.tmp 52) (.tmp 54)))) 8 (.seq (.mk none none (.k (.store 1 (.tmp 5) (.tmp 55)))) 10 .done))))))))))))))))) (.ref 10))
def T23n12 : XC := .seq (.ops [.mk (some 32) none (.k (.load [.ptr] false (.tmp 1))), .mk (some 33) none (.k (.nilc (.tmp 32))), .mk (some 34) none (.k (.fld 0 (.tmp 33))), .mk (some 35) none (.k (.load [.slc] false (.tmp 34))), .mk (some 36) none (.k (.fld 0 (.tmp 3))), .mk (some 37) none (.k (.load [.int .i64] false (.tmp 36))), .mk (some 38) none (.k (.idx 5 (.tmp 35) (.tmp 37))), .mk (some 39) none (.k (.load [.int .i64, .int .i64, .int .i64, .int .i64, .int .i64] true (.tmp 38))), .mk (some 4) none (.k (.alloc 37 [.int .i64 0, .int .i64 0, .int .i64 0, .int .i64 0, .int .i64 0])), .mk none none (.k (.store 5 (.tmp 4) (.tmp 39)))]) (.ref 11)
def T23n13 : XC := .seq (.seq (.ops [.mk (some 24) none (.k (.fld 0 (.tmp 3))), .mk (some 25) none (.k (.load [.int .i64] false (.tmp 24))), .mk (some 26) none (.k (.load [.ptr] false (.tmp 1))), .mk (some 27) none (.k (.nilc (.tmp 26))), .mk (some 28) none (.k (.fld 0 (.tmp 27))), .mk (some 29) none (.k (.load [.slc] false (.tmp 28))), .mk (some 30) none (.k (.lenS (.tmp 29))), .mk (some 31) none (.k (.cmp .geq .i64 (.tmp 25) (.tmp 30)))]) (.cond (.tmp 31) (.exit 1) .skip)) (.ref 12)
def T23n14 : XC := .seq (.ops [.mk (some 22) none (.k (.load [.slc] false (.tmp 2))), .mk (some 23) none (.k (.sub 2 (.tmp 22) (some (.const (.int .i64 1))) none)), .mk none none (.k (.store 1 (.tmp 2) (.tmp 23)))]) (.ref 13)
def T23n15 : XC := .blk 1 (.seq (.ops [.mk (some 19) none (.k (.load [.slc] false (.tmp 2))), .mk (some 20) none (.k (.idx 2 (.tmp 19) (.const (.int .i64 0)))), .mk (some 21) none (.k (.load [.int .i64, .bool] true (.tmp 20))), .mk (some 3) none (.k (.alloc 67 [.int .i64 0, .bool false])), .mk none none (.k (.store 2 (.tmp 3) (.tmp 21)))]) (.ref 14))
def T23n16 : XC := .seq (.seq (.ops [.mk (some 16) none (.k (.load [.slc] false (.tmp 2))), .mk (some 17) none (.k (.lenS (.tmp 16))), .mk (some 18) none (.k (.cmp .gtr .i64 (.tmp 17) (.const (.int .i64 0))))]) (.cond (.tmp 18) .skip (.exit 0))) (.ref 15)
def T23n17 : XC := .seq (.lab) (.blk 0 (.loop (.ref 16)))
def T23n18 : XC := .seq (.ops [.mk (some 11) none (.k (.load [.ptr] false (.tmp 1))), .mk (some 12) none (.k (.nilc (.tmp 11))), .mk (some 13) none (.k (.fld 1 (.tmp 12))), .mk (some 14) none (.k (.load [.map] false (.tmp 13))), .mk (some 15) none (.k (.build [.int .i64 0, .bool false] [])), .mk none none (.k (.mupdA [.int .i64, .bool] (.tmp 14) (.tmp 15) (.const (.int .u8 0))))]) (.ref 17)
def T23n19 : XC := .scp (.seq (.ops [.mk (some 9) none (.k (.build [.int .i64 0, .bool false] [])), .mk (some 10) none (.k (.buildS 67 1 2 [.int .i64 0, .bool false] [(0, .tmp 9)])), .mk (some 2) none (.k (.alloc 96 [.slice none 0 0])), .mk none none (.k (.store 1 (.tmp 2) (.tmp 10)))]) (.ref 18))
def T23 : Nat → XC
 | 0 => T23n0
 | 1 => T23n1
 | 2 => T23n2
 | 3 => T23n3
 | 4 => T23n4
 | 5 => T23n5
 | 6 => T23n6
 | 7 => T23n7
 | 8 => T23n8
 | 9 => T23n9
 | 10 => T23n10
 | 11 => T23n11
 | 12 => T23n12
 | 13 => T23n13
 | 14 => T23n14
 | 15 => T23n15
 | 16 => T23n16
 | 17 => T23n17
 | 18 => T23n18
 | 19 => T23n19
 | _ => .skip
theorem t23n0 : T23 0 = T23n0 := rfl
theorem t23n1 : T23 1 = T23n1 := rfl
theorem t23n2 : T23 2 = T23n2 := rfl
theorem t23n3 : T23 3 = T23n3 := rfl
theorem t23n4 : T23 4 = T23n4 := rfl
theorem t23n5 : T23 5 = T23n5 := rfl
theorem t23n6 : T23 6 = T23n6 := rfl
theorem t23n7 : T23 7 = T23n7 := rfl
theorem t23n8 : T23 8 = T23n8 := rfl
theorem t23n9 : T23 9 = T23n9 := rfl
theorem t23n10 : T23 10 = T23n10 := rfl
theorem t23n11 : T23 11 = T23n11 := rfl
theorem t23n12 : T23 12 = T23n12 := rfl
theorem t23n13 : T23 13 = T23n13 := rfl
theorem t23n14 : T23 14 = T23n14 := rfl
theorem t23n15 : T23 15 = T23n15 := rfl
theorem t23n16 : T23 16 = T23n16 := rfl
theorem t23n17 : T23 17 = T23n17 := rfl
theorem t23n18 : T23 18 = T23n18 := rfl
theorem t23n19 : T23 19 = T23n19 := rfl
def X23 : XC := .seq (.ops [.mk (some 1) none (.k (.box 61 1 (.tmp 0)))]) (.ref 19)
abbrev K23 : List Nat := [0, 1, 2, 3, 4, 5, 6, 7, 8, 18, 31, 42, 47, 48, 49, 50, 51, 52, 53, 54, 55, 58, 59, 71, 86, 95]
theorem n23 : Tryd.f23.ntmps = 108 := by kernel_rfl
theorem r23 : resT Tryd.f23.results.toList = some [] := by kernel_rfl
theorem x23 : cmpF Tryd.prog Tryd.f23 = some (expand T23 21 X23) := by kernel_rfl
def T25n0 : XC := .seq (.ops [.mk (some 12) none (.k (.fld 2 (.tmp 1))), .mk (some 13) none (.k (.load [.int .i64] false (.tmp 12))), .mk (some 14) none (.k (.buildS 3 1 1 [.int .i64 0] [(0, .tmp 13)])), .mk (some 15) none (.call 49 [.tmp 14]), .mk (some 2) none (.k (.mov (.tmp 15)))]) .ret
def T25n1 : XC := .seq (.ops [.mk (some 25) none (.k (.fld 2 (.tmp 1))), .mk (some 26) none (.k (.load [.int .i64] false (.tmp 25))), .mk (some 27) none (.k (.fld 3 (.tmp 1))), .mk (some 28) none (.k (.load [.int .i64] false (.tmp 27))), .mk (some 29) none (.k (.buildS 3 2 1 [.int .i64 0] [(0, .tmp 26), (1, .tmp 28)])), .mk (some 30) none (.call 49 [.tmp 29]), .mk (some 2) none (.k (.mov (.tmp 30)))]) .ret
def T25n2 : XC := .seq (.ops [.mk (some 45) none (.k (.fld 1 (.tmp 1))), .mk (some 46) none (.k (.load [.int .i64] false (.tmp 45))), .mk (some 47) none (.k (.fld 2 (.tmp 1))), .mk (some 48) none (.k (.load [.int .i64] false (.tmp 47))), .mk (some 49) none (.k (.buildS 3 2 1 [.int .i64 0] [(0, .tmp 46), (1, .tmp 48)])), .mk (some 50) none (.call 49 [.tmp 49]), .mk (some 2) none (.k (.mov (.tmp 50)))]) .ret
def T25n3 : XC := .seq (.ops [.mk (some 32) none (.k (.fld 0 (.tmp 1))), .mk (some 33) none (.k (.load [.int .i64] false (.tmp 32))), .mk (some 34) none (.k (.cmp .eql .i64 (.tmp 33) (.const (.int .i64 12)))), .mk (some 35) none (.k (.mov (.tmp 34))), .mk (some 36) (some (35, false)) (.k (.fld 0 (.tmp 1))), .mk (some 37) (some (35, false)) (.k (.load [.int .i64] false (.tmp 36))), .mk (some 38) (some (35, false)) (.k (.cmp .geq .i64 (.tmp 37) (.const (.int .i64 14)))), .mk (some 39) (some (35, false)) (.k (.mov (.tmp 38))), .mk (some 40) (some (39, true)) (.k (.fld 0 (.tmp 1))), .mk (some 41) (some (39, true)) (.k (.load [.int .i64] false (.tmp 40))), .mk (some 42) (some (39, true)) (.k (.cmp .leq .i64 (.tmp 41) (.const (.int .i64 16)))), .mk (some 43) (some (35, false)) (.k (.pick (.tmp 39) (.tmp 42) (.const (.bool false)))), .mk (some 44) none (.k (.pick (.tmp 35) (.const (.bool true)) (.tmp 43))), .mk (some 31) none (.k (.mov (.tmp 44)))]) (.cond (.tmp 31) (.ref 2) .skip)
def T25n4 : XC := .seq (.ops [.mk (some 17) none (.k (.fld 0 (.tmp 1))), .mk (some 18) none (.k (.load [.int .i64] false (.tmp 17))), .mk (some 19) none (.k (.cmp .geq .i64 (.tmp 18) (.const (.int .i64 4)))), .mk (some 20) none (.k (.mov (.tmp 19))), .mk (some 21) (some (20, true)) (.k (.fld 0 (.tmp 1))), .mk (some 22) (some (20, true)) (.k (.load [.int .i64] false (.tmp 21))), .mk (some 23) (some (20, true)) (.k (.cmp .leq .i64 (.tmp 22) (.const (.int .i64 10)))), .mk (some 24) none (.k (.pick (.tmp 20) (.tmp 23) (.const (.bool false)))), .mk (some 16) none (.k (.mov (.tmp 24)))]) (.cond (.tmp 16) (.ref 1) (.ref 3))
def T25n5 : XC := .seq (.ops [.mk (some 2) none (.k (.mov (.const (.int .u8 0))))]) .ret
def T25n6 : XC := .seq (.blk 0 (.seq (.ops [.mk (some 4) none (.k (.fld 0 (.tmp 1))), .mk (some 5) none (.k (.load [.int .i64] false (.tmp 4))), .mk (some 6) none (.k (.cmp .eql .i64 (.tmp 5) (.const (.int .i64 3)))), .mk (some 7) none (.k (.mov (.tmp 6))), .mk (some 8) (some (7, false)) (.k (.fld 0 (.tmp 1))), .mk (some 9) (some (7, false)) (.k (.load [.int .i64] false (.tmp 8))), .mk (some 10) (some (7, false)) (.k (.cmp .eql .i64 (.tmp 9) (.const (.int .i64 11)))), .mk (some 11) none (.k (.pick (.tmp 7) (.const (.bool true)) (.tmp 10))), .mk (some 3) none (.k (.mov (.tmp 11)))]) (.cond (.tmp 3) (.ref 0) (.ref 4)))) (.ref 5)
def T25 : Nat → XC
 | 0 => T25n0
 | 1 => T25n1
 | 2 => T25n2
 | 3 => T25n3
 | 4 => T25n4
 | 5 => T25n5
 | 6 => T25n6
 | _ => .skip
theorem t25n0 : T25 0 = T25n0 := rfl
theorem t25n1 : T25 1 = T25n1 := rfl
theorem t25n2 : T25 2 = T25n2 := rfl
theorem t25n3 : T25 3 = T25n3 := rfl
theorem t25n4 : T25 4 = T25n4 := rfl
theorem t25n5 : T25 5 = T25n5 := rfl
theorem t25n6 : T25 6 = T25n6 := rfl
def X25 : XC := .seq (.ops [.mk (some 1) none (.k (.box 37 5 (.tmp 0))), .mk (some 2) none (.k (.mov (.const (.int .u8 0))))]) (.ref 6)
abbrev K25 : List Nat := [0, 1, 2, 3, 16, 31]
theorem n25 : Tryd.f25.ntmps = 51 := by kernel_rfl
theorem r25 : resT Tryd.f25.results.toList = some [2] := by kernel_rfl
theorem x25 : cmpF Tryd.prog Tryd.f25 = some (expand T25 8 X25) := by kernel_rfl
def T26 : Nat → XC
 | _ => .skip
def X26 : XC := .ops [.mk (some 6) none (.k (.mov (.tmp 0))), .mk (some 7) none (.k (.mov (.tmp 0))), .mk (some 8) none (.k (.nilc (.tmp 7))), .mk (some 9) none (.k (.fld 2 (.tmp 8))), .mk (some 10) none (.k (.load [.slc] false (.tmp 9))), .mk (some 11) none (.k (.mov (.tmp 1))), .mk (some 12) none (.k (.mov (.tmp 2))), .mk (some 13) none (.k (.build [.int .i64 0, .int .i64 0] [(0, 1, .tmp 11), (1, 1, .tmp 12)])), .mk (some 14) none (.k (.buildS 73 1 2 [.int .i64 0, .int .i64 0] [(0, .tmp 13)])), .mk (some 15) none (.k (.app 73 2 16 (.tmp 10) (.tmp 14))), .mk (some 16) none (.k (.nilc (.tmp 6))), .mk (some 17) none (.k (.fld 2 (.tmp 16))), .mk none none (.k (.store 1 (.tmp 17) (.tmp 15)))]
abbrev K26 : List Nat := [0, 1, 2]
theorem n26 : Tryd.f26.ntmps = 18 := by kernel_rfl
theorem r26 : resT Tryd.f26.results.toList = some [] := by kernel_rfl
theorem x26 : cmpF Tryd.prog Tryd.f26 = some (expand T26 1 X26) := by kernel_rfl
def T28n0 : XC := .seq (.ops [.mk (some 5) none (.k (.fld 0 (.tmp 2))), .mk (some 7) none (.k (.fld 0 (.tmp 3))), .mk (some 10) none (.k (.fld 1 (.tmp 2))), .mk (some 12) none (.k (.fld 1 (.tmp 3))), .mk (some 6) none (.k (.load [.int .i64] false (.tmp 5))), .mk (some 8) none (.k (.load [.int .i64] false (.tmp 7))), .mk (some 11) none (.k (.load [.int .i64] false (.tmp 10))), .mk (some 13) none (.k (.load [.int .i64] false (.tmp 12))), .mk (some 9) none (.call 30 [.tmp 6, .tmp 8]), .mk none none (.still 13 (.load [.int .i64] false (.tmp 12))), .mk none none (.still 11 (.load [.int .i64] false (.tmp 10))), .mk (some 14) none (.call 30 [.tmp 11, .tmp 13]), .mk (some 15) none (.k (.buildS 3 2 1 [.int .i64 0] [(0, .tmp 9), (1, .tmp 14)])), .mk (some 16) none (.call 29 [.tmp 15]), .mk (some 4) none (.k (.mov (.tmp 16)))]) .ret
def T28 : Nat → XC
 | 0 => T28n0
 | _ => .skip
theorem t28n0 : T28 0 = T28n0 := rfl
def X28 : XC := .seq (.ops [.mk (some 2) none (.k (.box 73 2 (.tmp 0))), .mk (some 3) none (.k (.box 73 2 (.tmp 1))), .mk (some 4) none (.k (.mov (.const (.int .i64 0))))]) (.ref 0)
abbrev K28 : List Nat := [0, 1, 2, 3, 4]
theorem n28 : Tryd.f28.ntmps = 17 := by kernel_rfl
theorem r28 : resT Tryd.f28.results.toList = some [4] := by kernel_rfl
theorem x28 : cmpF Tryd.prog Tryd.f28 = some (expand T28 2 X28) := by kernel_rfl
def T29n0 : XC := .seq (.ops [.mk (some 15) none (.k (.mov (.tmp 5))), .mk (some 2) none (.k (.mov (.tmp 15)))]) .ret
def T29n1 : XC := .seq (.ops [.mk (some 12) none (.k (.mov (.tmp 5))), .mk (some 13) none (.k (.mov (.tmp 3))), .mk (some 14) none (.k (.cmp .neq .i64 (.tmp 12) (.tmp 13)))]) (.cond (.tmp 14) (.ref 0) .skip)
def T29n2 : XC := .seq (.blk 1 (.seq (.ops [.mk (some 10) none (.k (.idx 1 (.tmp 6) (.tmp 8))), .mk (some 11) none (.k (.load [.int .i64] false (.tmp 10))), .mk (some 5) none (.k (.mov (.tmp 11)))]) (.ref 1))) (.ops [.mk (some 16) none (.k (.arith .add .i64 (.tmp 8) (.const (.int .i64 1)))), .mk (some 8) none (.k (.mov (.tmp 16)))])
def T29n3 : XC := .seq (.cond (.tmp 9) .skip (.exit 0)) (.ref 2)
def T29n4 : XC := .seq (.ops [.mk (some 9) none (.k (.cmp .lss .i64 (.tmp 8) (.tmp 7)))]) (.ref 3)
def T29n5 : XC := .seq (.ops [.mk (some 17) none (.k (.mov (.tmp 3))), .mk (some 2) none (.k (.mov (.tmp 17)))]) .ret
def T29n6 : XC := .seq (.seq (.ops [.mk (some 6) none (.k (.mov (.tmp 0))), .mk (some 7) none (.k (.lenS (.tmp 6))), .mk (some 8) none (.k (.mov (.const (.int .i64 0))))]) (.blk 0 (.loop (.ref 4)))) (.ref 5)
def T29n7 : XC := .seq (.ops [.mk (some 3) none (.k (.mov (.const (.int .i64 0))))]) (.ref 6)
def T29 : Nat → XC
 | 0 => T29n0
 | 1 => T29n1
 | 2 => T29n2
 | 3 => T29n3
 | 4 => T29n4
 | 5 => T29n5
 | 6 => T29n6
 | 7 => T29n7
 | _ => .skip
theorem t29n0 : T29 0 = T29n0 := rfl
theorem t29n1 : T29 1 = T29n1 := rfl
theorem t29n2 : T29 2 = T29n2 := rfl
theorem t29n3 : T29 3 = T29n3 := rfl
theorem t29n4 : T29 4 = T29n4 := rfl
theorem t29n5 : T29 5 = T29n5 := rfl
theorem t29n6 : T29 6 = T29n6 := rfl
theorem t29n7 : T29 7 = T29n7 := rfl
def X29 : XC := .seq (.ops [.mk (some 2) none (.k (.mov (.const (.int .i64 0))))]) (.ref 7)
abbrev K29 : List Nat := [0, 2, 3, 5, 6, 7, 8, 9, 14]
theorem n29 : Tryd.f29.ntmps = 18 := by kernel_rfl
theorem r29 : resT Tryd.f29.results.toList = some [2] := by kernel_rfl
theorem x29 : cmpF Tryd.prog Tryd.f29 = some (expand T29 9 X29) := by kernel_rfl
def T30n0 : XC := .seq (.ops [.mk (some 4) none (.k (.mov (.const (.int .i64 0))))]) .ret
def T30n1 : XC := .seq (.ops [.mk (some 4) none (.k (.mov (.const (.int .i64 (-1)))))]) .ret
def T30n2 : XC := .seq (.seq (.ops [.mk (some 12) none (.k (.mov (.tmp 6)))]) (.cond (.tmp 12) (.ref 0) .skip)) (.ref 1)
def T30n3 : XC := .seq (.ops [.mk (some 4) none (.k (.mov (.const (.int .i64 1))))]) .ret
def T30n4 : XC := .seq (.ops [.mk (some 4) none (.k (.mov (.const (.int .i64 (-1)))))]) .ret
def T30n5 : XC := .seq (.ops [.mk (some 4) none (.k (.mov (.const (.int .i64 1))))]) .ret
def T30n6 : XC := .seq (.ops [.mk (some 4) none (.k (.mov (.const (.int .i64 0))))]) .ret
def T30n7 : XC := .seq (.seq (.ops [.mk (some 17) none (.k (.mov (.tmp 0))), .mk (some 18) none (.k (.mov (.tmp 1))), .mk (some 19) none (.k (.cmp .gtr .i64 (.tmp 17) (.tmp 18)))]) (.cond (.tmp 19) (.ref 5) .skip)) (.ref 6)
def T30n8 : XC := .seq (.seq (.ops [.mk (some 14) none (.k (.mov (.tmp 0))), .mk (some 15) none (.k (.mov (.tmp 1))), .mk (some 16) none (.k (.cmp .lss .i64 (.tmp 14) (.tmp 15)))]) (.cond (.tmp 16) (.ref 4) .skip)) (.ref 7)
def T30n9 : XC := .seq (.seq (.ops [.mk (some 13) none (.k (.mov (.tmp 6)))]) (.cond (.tmp 13) (.ref 3) .skip)) (.ref 8)
def T30n10 : XC := .seq (.seq (.ops [.mk (some 11) none (.k (.mov (.tmp 5)))]) (.cond (.tmp 11) (.ref 2) .skip)) (.ref 9)
def T30n11 : XC := .seq (.ops [.mk (some 9) none (.k (.mov (.tmp 1))), .mk (some 10) none (.call 52 [.tmp 9]), .mk (some 6) none (.k (.mov (.tmp 10)))]) (.ref 10)
def T30n12 : XC := .seq (.ops [.mk (some 7) none (.k (.mov (.tmp 0))), .mk (some 8) none (.call 52 [.tmp 7]), .mk (some 5) none (.k (.mov (.tmp 8)))]) (.ref 11)
def T30 : Nat → XC
 | 0 => T30n0
 | 1 => T30n1
 | 2 => T30n2
 | 3 => T30n3
 | 4 => T30n4
 | 5 => T30n5
 | 6 => T30n6
 | 7 => T30n7
 | 8 => T30n8
 | 9 => T30n9
 | 10 => T30n10
 | 11 => T30n11
 | 12 => T30n12
 | _ => .skip
theorem t30n0 : T30 0 = T30n0 := rfl
theorem t30n1 : T30 1 = T30n1 := rfl
theorem t30n2 : T30 2 = T30n2 := rfl
theorem t30n3 : T30 3 = T30n3 := rfl
theorem t30n4 : T30 4 = T30n4 := rfl
theorem t30n5 : T30 5 = T30n5 := rfl
theorem t30n6 : T30 6 = T30n6 := rfl
theorem t30n7 : T30 7 = T30n7 := rfl
theorem t30n8 : T30 8 = T30n8 := rfl
theorem t30n9 : T30 9 = T30n9 := rfl
theorem t30n10 : T30 10 = T30n10 := rfl
theorem t30n11 : T30 11 = T30n11 := rfl
theorem t30n12 : T30 12 = T30n12 := rfl
def X30 : XC := .seq (.ops [.mk (some 4) none (.k (.mov (.const (.int .i64 0))))]) (.ref 12)
abbrev K30 : List Nat := [0, 1, 4, 5, 6, 11, 12, 13, 16, 19]
theorem n30 : Tryd.f30.ntmps = 20 := by kernel_rfl
theorem r30 : resT Tryd.f30.results.toList = some [4] := by kernel_rfl
theorem x30 : cmpF Tryd.prog Tryd.f30 = some (expand T30 14 X30) := by kernel_rfl
def T31n0 : XC := .seq (.ops [.mk (some 9) none (.k (.mov (.tmp 0))), .mk (some 2) none (.k (.mov (.tmp 9)))]) .ret
def T31n1 : XC := .ops [.mk (some 52) none (.k (.mov (.tmp 3))), .mk (some 53) none (.k (.arith .add .i64 (.tmp 52) (.const (.int .i64 1)))), .mk (some 3) none (.k (.mov (.tmp 53)))]
def T31n2 : XC := .seq (.ops [.mk (some 45) none (.k (.mov (.tmp 0))), .mk (some 46) none (.k (.mov (.tmp 3))), .mk (some 47) none (.k (.mov (.tmp 4))), .mk (some 48) none (.k (.mov (.tmp 5))), .mk (some 49) none (.k (.idx 2 (.tmp 47) (.tmp 48))), .mk (some 50) none (.k (.load [.int .i64, .int .i64] true (.tmp 49))), .mk (some 51) none (.k (.idx 2 (.tmp 45) (.tmp 46))), .mk none none (.k (.store 2 (.tmp 51) (.tmp 50)))]) (.ref 1)
def T31n3 : XC := .ops [.mk (some 33) none (.k (.mov (.tmp 5))), .mk (some 34) none (.k (.arith .add .i64 (.tmp 33) (.const (.int .i64 1)))), .mk (some 5) none (.k (.mov (.tmp 34)))]
def T31n4 : XC := .seq (.blk 3 (.seq (.ops [.mk (some 35) none (.k (.mov (.tmp 4))), .mk (some 36) none (.k (.mov (.tmp 5))), .mk (some 37) none (.k (.idx 2 (.tmp 35) (.tmp 36))), .mk (some 38) none (.k (.load [.int .i64, .int .i64] true (.tmp 37))), .mk (some 39) none (.k (.mov (.tmp 4))), .mk (some 40) none (.k (.mov (.tmp 5))), .mk (some 41) none (.k (.arith .sub .i64 (.tmp 40) (.const (.int .i64 1)))), .mk (some 42) none (.k (.idx 2 (.tmp 39) (.tmp 41))), .mk (some 43) none (.k (.load [.int .i64, .int .i64] true (.tmp 42))), .mk (some 44) none (.k (.eqa true [.int .i64, .int .i64] (.tmp 38) (.tmp 43)))]) (.cond (.tmp 44) (.ref 2) .skip))) (.ref 3)
def T31n5 : XC := .seq (.seq (.ops [.mk (some 29) none (.k (.mov (.tmp 5))), .mk (some 30) none (.k (.mov (.tmp 4))), .mk (some 31) none (.k (.lenS (.tmp 30))), .mk (some 32) none (.k (.cmp .lss .i64 (.tmp 29) (.tmp 31)))]) (.cond (.tmp 32) .skip (.exit 2))) (.ref 4)
def T31n6 : XC := .seq (.ops [.mk (some 57) none (.k (.mov (.tmp 0))), .mk (some 58) none (.k (.mov (.tmp 3))), .mk (some 59) none (.k (.sub 2 (.tmp 57) none (some (.tmp 58)))), .mk (some 2) none (.k (.mov (.tmp 59)))]) .ret
def T31n7 : XC := .seq (.ops [.mk (some 54) none (.k (.mov (.tmp 0))), .mk (some 55) none (.k (.mov (.tmp 3))), .mk (some 56) none (.k (.sub 2 (.tmp 54) (some (.tmp 55)) none)), .mk none none (.k (.clr 2 [.int .i64 0, .int .i64 0] (.tmp 56)))]) (.ref 6)
def T31n8 : XC := .seq (.seq (.ops [.mk (some 5) none (.k (.mov (.const (.int .i64 1))))]) (.blk 2 (.loop (.ref 5)))) (.ref 7)
def T31n9 : XC := .seq (.ops [.mk (some 26) none (.k (.mov (.tmp 0))), .mk (some 27) none (.k (.mov (.tmp 3))), .mk (some 28) none (.k (.sub 2 (.tmp 26) (some (.tmp 27)) none)), .mk (some 4) none (.k (.mov (.tmp 28)))]) (.ref 8)
def T31n10 : XC := .ops [.mk (some 14) none (.k (.mov (.tmp 3))), .mk (some 15) none (.k (.arith .add .i64 (.tmp 14) (.const (.int .i64 1)))), .mk (some 3) none (.k (.mov (.tmp 15)))]
def T31n11 : XC := .seq (.blk 1 (.seq (.ops [.mk (some 16) none (.k (.mov (.tmp 0))), .mk (some 17) none (.k (.mov (.tmp 3))), .mk (some 18) none (.k (.idx 2 (.tmp 16) (.tmp 17))), .mk (some 19) none (.k (.load [.int .i64, .int .i64] true (.tmp 18))), .mk (some 20) none (.k (.mov (.tmp 0))), .mk (some 21) none (.k (.mov (.tmp 3))), .mk (some 22) none (.k (.arith .sub .i64 (.tmp 21) (.const (.int .i64 1)))), .mk (some 23) none (.k (.idx 2 (.tmp 20) (.tmp 22))), .mk (some 24) none (.k (.load [.int .i64, .int .i64] true (.tmp 23))), .mk (some 25) none (.k (.eqa false [.int .i64, .int .i64] (.tmp 19) (.tmp 24)))]) (.cond (.tmp 25) (.ref 9) .skip))) (.ref 10)
def T31n12 : XC := .seq (.seq (.ops [.mk (some 10) none (.k (.mov (.tmp 3))), .mk (some 11) none (.k (.mov (.tmp 0))), .mk (some 12) none (.k (.lenS (.tmp 11))), .mk (some 13) none (.k (.cmp .lss .i64 (.tmp 10) (.tmp 12)))]) (.cond (.tmp 13) .skip (.exit 0))) (.ref 11)
def T31n13 : XC := .seq (.ops [.mk (some 60) none (.k (.mov (.tmp 0))), .mk (some 2) none (.k (.mov (.tmp 60)))]) .ret
def T31n14 : XC := .seq (.seq (.ops [.mk (some 3) none (.k (.mov (.const (.int .i64 1))))]) (.blk 0 (.loop (.ref 12)))) (.ref 13)
def T31n15 : XC := .seq (.seq (.ops [.mk (some 6) none (.k (.mov (.tmp 0))), .mk (some 7) none (.k (.lenS (.tmp 6))), .mk (some 8) none (.k (.cmp .lss .i64 (.tmp 7) (.const (.int .i64 2))))]) (.cond (.tmp 8) (.ref 0) .skip)) (.ref 14)
def T31 : Nat → XC
 | 0 => T31n0
 | 1 => T31n1
 | 2 => T31n2
 | 3 => T31n3
 | 4 => T31n4
 | 5 => T31n5
 | 6 => T31n6
 | 7 => T31n7
 | 8 => T31n8
 | 9 => T31n9
 | 10 => T31n10
 | 11 => T31n11
 | 12 => T31n12
 | 13 => T31n13
 | 14 => T31n14
 | 15 => T31n15
 | _ => .skip
theorem t31n0 : T31 0 = T31n0 := rfl
theorem t31n1 : T31 1 = T31n1 := rfl
theorem t31n2 : T31 2 = T31n2 := rfl
theorem t31n3 : T31 3 = T31n3 := rfl
theorem t31n4 : T31 4 = T31n4 := rfl
theorem t31n5 : T31 5 = T31n5 := rfl
theorem t31n6 : T31 6 = T31n6 := rfl
theorem t31n7 : T31 7 = T31n7 := rfl
theorem t31n8 : T31 8 = T31n8 := rfl
theorem t31n9 : T31 9 = T31n9 := rfl
theorem t31n10 : T31 10 = T31n10 := rfl
theorem t31n11 : T31 11 = T31n11 := rfl
theorem t31n12 : T31 12 = T31n12 := rfl
theorem t31n13 : T31 13 = T31n13 := rfl
theorem t31n14 : T31 14 = T31n14 := rfl
theorem t31n15 : T31 15 = T31n15 := rfl
def X31 : XC := .seq (.ops [.mk (some 2) none (.k (.mov (.const (.slice none 0 0))))]) (.ref 15)
abbrev K31 : List Nat := [0, 2, 3, 4, 5, 8, 13, 25, 32, 44]
theorem n31 : Tryd.f31.ntmps = 61 := by kernel_rfl
theorem r31 : resT Tryd.f31.results.toList = some [2] := by kernel_rfl
theorem x31 : cmpF Tryd.prog Tryd.f31 = some (expand T31 17 X31) := by kernel_rfl
def T45n0 : XC := .seq (.ops [.mk (some 11) none (.k (.fld 1 (.tmp 1))), .mk (some 12) none (.k (.load [.int .i64] false (.tmp 11))), .mk (some 13) none (.k (.buildS 3 1 1 [.int .i64 0] [(0, .tmp 12)])), .mk (some 14) none (.call 49 [.tmp 13]), .mk (some 2) none (.k (.mov (.tmp 14)))]) .ret
def T45n1 : XC := .seq (.ops [.mk (some 2) none (.k (.mov (.const (.int .u8 0))))]) .ret
def T45n2 : XC := .seq (.seq (.ops [.mk (some 3) none (.k (.fld 0 (.tmp 1))), .mk (some 4) none (.k (.load [.int .i64] false (.tmp 3))), .mk (some 5) none (.k (.cmp .geq .i64 (.tmp 4) (.const (.int .i64 2)))), .mk (some 6) none (.k (.mov (.tmp 5))), .mk (some 7) (some (6, true)) (.k (.fld 0 (.tmp 1))), .mk (some 8) (some (6, true)) (.k (.load [.int .i64] false (.tmp 7))), .mk (some 9) (some (6, true)) (.k (.cmp .leq .i64 (.tmp 8) (.const (.int .i64 11)))), .mk (some 10) none (.k (.pick (.tmp 6) (.tmp 9) (.const (.bool false))))]) (.cond (.tmp 10) (.ref 0) .skip)) (.ref 1)
def T45 : Nat → XC
 | 0 => T45n0
 | 1 => T45n1
 | 2 => T45n2
 | _ => .skip
theorem t45n0 : T45 0 = T45n0 := rfl
theorem t45n1 : T45 1 = T45n1 := rfl
theorem t45n2 : T45 2 = T45n2 := rfl
def X45 : XC := .seq (.ops [.mk (some 1) none (.k (.box 37 5 (.tmp 0))), .mk (some 2) none (.k (.mov (.const (.int .u8 0))))]) (.ref 2)
abbrev K45 : List Nat := [0, 1, 2, 10]
theorem n45 : Tryd.f45.ntmps = 15 := by kernel_rfl
theorem r45 : resT Tryd.f45.results.toList = some [2] := by kernel_rfl
theorem x45 : cmpF Tryd.prog Tryd.f45 = some (expand T45 4 X45) := by kernel_rfl
def T46n0 : XC := .seq (.ops [.mk (some 14) none (.k (.mkfn (.func 61) [] [.tmp 3, .tmp 5, .tmp 2])), .mk (some 4) none (.k (.mov (.tmp 14)))]) .ret
def T46n1 : XC := .seq (.ops [.mk (some 6) none (.k (.load [.ptr] false (.tmp 2))), .mk (some 7) none (.k (.nilc (.tmp 6))), .mk (some 8) none (.k (.fld 0 (.tmp 7))), .mk (some 9) none (.k (.load [.slc] false (.tmp 8))), .mk (some 10) none (.k (.fld 0 (.tmp 3))), .mk (some 11) none (.k (.load [.int .i64] false (.tmp 10))), .mk (some 12) none (.k (.idx 5 (.tmp 9) (.tmp 11))), .mk (some 13) none (.k (.load [.int .i64, .int .i64, .int .i64, .int .i64, .int .i64] true (.tmp 12))), .mk (some 5) none (.k (.alloc 37 [.int .i64 0, .int .i64 0, .int .i64 0, .int .i64 0, .int .i64 0])), .mk none none (.k (.store 5 (.tmp 5) (.tmp 13)))]) (.ref 0)
def T46 : Nat → XC
 | 0 => T46n0
 | 1 => T46n1
 | _ => .skip
theorem t46n0 : T46 0 = T46n0 := rfl
theorem t46n1 : T46 1 = T46n1 := rfl
def X46 : XC := .seq (.ops [.mk (some 2) none (.k (.box 61 1 (.tmp 0))), .mk (some 3) none (.k (.box 67 2 (.tmp 1))), .mk (some 4) none (.k (.mov (.const .nilFunc)))]) (.ref 1)
abbrev K46 : List Nat := [0, 1, 2, 3, 4, 5]
theorem n46 : Tryd.f46.ntmps = 15 := by kernel_rfl
theorem r46 : resT Tryd.f46.results.toList = some [4] := by kernel_rfl
theorem x46 : cmpF Tryd.prog Tryd.f46 = some (expand T46 3 X46) := by kernel_rfl
def T49n0 : XC := .ops [.mk (some 11) none (.k (.mov (.tmp 2))), .mk (some 12) none (.k (.mov (.tmp 4))), .mk (some 13) none (.k (.shift .shl .u8 (.const (.int .u8 1)) (.tmp 12))), .mk (some 14) none (.k (.bits .or .u8 (.tmp 11) (.tmp 13))), .mk (some 2) none (.k (.mov (.tmp 14)))]
def T49n1 : XC := .seq (.blk 1 (.seq (.ops [.mk (some 9) none (.k (.idx 1 (.tmp 5) (.tmp 7))), .mk (some 10) none (.k (.load [.int .i64] false (.tmp 9))), .mk (some 4) none (.k (.mov (.tmp 10)))]) (.ref 0))) (.ops [.mk (some 15) none (.k (.arith .add .i64 (.tmp 7) (.const (.int .i64 1)))), .mk (some 7) none (.k (.mov (.tmp 15)))])
def T49n2 : XC := .seq (.cond (.tmp 8) .skip (.exit 0)) (.ref 1)
def T49n3 : XC := .seq (.ops [.mk (some 8) none (.k (.cmp .lss .i64 (.tmp 7) (.tmp 6)))]) (.ref 2)
def T49n4 : XC := .seq (.ops [.mk (some 16) none (.k (.mov (.tmp 2))), .mk (some 2) none (.k (.mov (.tmp 16)))]) .ret
def T49n5 : XC := .seq (.seq (.ops [.mk (some 5) none (.k (.mov (.tmp 0))), .mk (some 6) none (.k (.lenS (.tmp 5))), .mk (some 7) none (.k (.mov (.const (.int .i64 0))))]) (.blk 0 (.loop (.ref 3)))) (.ref 4)
def T49 : Nat → XC
 | 0 => T49n0
 | 1 => T49n1
 | 2 => T49n2
 | 3 => T49n3
 | 4 => T49n4
 | 5 => T49n5
 | _ => .skip
theorem t49n0 : T49 0 = T49n0 := rfl
theorem t49n1 : T49 1 = T49n1 := rfl
theorem t49n2 : T49 2 = T49n2 := rfl
theorem t49n3 : T49 3 = T49n3 := rfl
theorem t49n4 : T49 4 = T49n4 := rfl
theorem t49n5 : T49 5 = T49n5 := rfl
def X49 : XC := .seq (.ops [.mk (some 2) none (.k (.mov (.const (.int .u8 0))))]) (.ref 5)
abbrev K49 : List Nat := [0, 2, 4, 5, 6, 7, 8]
theorem n49 : Tryd.f49.ntmps = 17 := by kernel_rfl
theorem r49 : resT Tryd.f49.results.toList = some [2] := by kernel_rfl
theorem x49 : cmpF Tryd.prog Tryd.f49 = some (expand T49 7 X49) := by kernel_rfl
def T52n0 : XC := .seq (.ops [.mk (some 3) none (.k (.mov (.tmp 0))), .mk (some 4) none (.k (.mov (.tmp 0))), .mk (some 5) none (.k (.cmp .neq .i64 (.tmp 3) (.tmp 4))), .mk (some 2) none (.k (.mov (.tmp 5)))]) .ret
def T52 : Nat → XC
 | 0 => T52n0
 | _ => .skip
theorem t52n0 : T52 0 = T52n0 := rfl
def X52 : XC := .seq (.ops [.mk (some 2) none (.k (.mov (.const (.bool false))))]) (.ref 0)
abbrev K52 : List Nat := [0, 2]
theorem n52 : Tryd.f52.ntmps = 6 := by kernel_rfl
theorem r52 : resT Tryd.f52.results.toList = some [2] := by kernel_rfl
theorem x52 : cmpF Tryd.prog Tryd.f52 = some (expand T52 2 X52) := by kernel_rfl
def T61n0 : XC := .ops [.mk (some 18) none (.k (.load [.ptr] false (.tmp 3))), .mk (some 19) none (.k (.fld 0 (.tmp 1))), .mk (some 20) none (.k (.load [.int .i64] false (.tmp 19))), .mk (some 21) none (.call 26 [.tmp 18, .const (.int .i64 4), .tmp 20])]
def T61n1 : XC := .seq (.seq (.ops [.mk (some 16) none (.k (.fld 1 (.tmp 1))), .mk (some 17) none (.k (.load [.bool] false (.tmp 16)))]) (.cond (.tmp 17) (.ref 0) .skip)) .ret
def T61n2 : XC := .seq (.ops [.mk (some 30) none (.k (.load [.ptr] false (.tmp 3))), .mk (some 31) none (.k (.fld 0 (.tmp 1))), .mk (some 32) none (.k (.load [.int .i64] false (.tmp 31))), .mk (some 33) none (.call 26 [.tmp 30, .const (.int .i64 3), .tmp 32])]) .ret
def T61n3 : XC := .seq (.ops [.mk (some 43) none (.k (.load [.ptr] false (.tmp 3))), .mk (some 44) none (.k (.fld 0 (.tmp 1))), .mk (some 45) none (.k (.load [.int .i64] false (.tmp 44))), .mk (some 46) none (.call 26 [.tmp 43, .const (.int .i64 2), .tmp 45])]) .ret
def T61n4 : XC := .ops [.mk (some 56) none (.k (.fld 1 (.tmp 1))), .mk (some 57) none (.k (.load [.bool] false (.tmp 56))), .mk (some 58) none (.k (.not (.tmp 57))), .mk (some 59) none (.k (.fld 1 (.tmp 5))), .mk none none (.k (.store 1 (.tmp 59) (.tmp 58)))]
def T61n5 : XC := .ops [.mk (some 77) none (.k (.load [.ptr] false (.tmp 3))), .mk (some 78) none (.k (.fld 0 (.tmp 1))), .mk (some 79) none (.k (.load [.int .i64] false (.tmp 78))), .mk (some 80) none (.call 26 [.tmp 77, .const (.int .i64 6), .tmp 79])]
def T61n6 : XC := .seq (.ops [.mk (some 81) none (.k (.mov (.tmp 0))), .mk (some 82) none (.k (.fld 4 (.tmp 2))), .mk (some 83) none (.k (.load [.int .i64] false (.tmp 82))), .mk (some 84) none (.k (.fld 1 (.tmp 1))), .mk (some 85) none (.k (.load [.bool] false (.tmp 84))), .mk (some 86) none (.k (.build [.int .i64 0, .bool false] [(0, 1, .tmp 83), (1, 1, .tmp 85)])), .mk (some 87) none (.callv (.tmp 81) [.tmp 86]), .mk (some 88) none (.k (.not (.tmp 87)))]) (.cond (.tmp 88) .ret .skip)
def T61n7 : XC := .seq (.ops [.mk (some 89) none (.k (.fld 0 (.tmp 2))), .mk (some 90) none (.k (.load [.int .i64] false (.tmp 89))), .mk (some 91) none (.k (.cmp .eql .i64 (.tmp 90) (.const (.int .i64 13))))]) (.cond (.tmp 91) .ret .skip)
def T61n8 : XC := .seq (.seq (.ops [.mk (some 69) none (.k (.fld 4 (.tmp 2))), .mk (some 70) none (.k (.load [.int .i64] false (.tmp 69))), .mk (some 71) none (.k (.cmp .lss .i64 (.tmp 70) (.const (.int .i64 0)))), .mk (some 72) none (.k (.mov (.tmp 71))), .mk (some 73) (some (72, false)) (.k (.fld 4 (.tmp 2))), .mk (some 74) (some (72, false)) (.k (.load [.int .i64] false (.tmp 73))), .mk (some 75) (some (72, false)) (.k (.cmp .gtr .i64 (.tmp 74) (.const (.int .i64 1024)))), .mk (some 76) none (.k (.pick (.tmp 72) (.const (.bool true)) (.tmp 75)))]) (.cond (.tmp 76) (.ref 5) (.ref 6))) (.ref 7)
def T61n9 : XC := .seq (.ops [.mk (some 61) none (.k (.fld 0 (.tmp 2))), .mk (some 62) none (.k (.load [.int .i64] false (.tmp 61))), .mk (some 63) none (.k (.cmp .geq .i64 (.tmp 62) (.const (.int .i64 13)))), .mk (some 64) none (.k (.mov (.tmp 63))), .mk (some 65) (some (64, true)) (.k (.fld 0 (.tmp 2))), .mk (some 66) (some (64, true)) (.k (.load [.int .i64] false (.tmp 65))), .mk (some 67) (some (64, true)) (.k (.cmp .leq .i64 (.tmp 66) (.const (.int .i64 16)))), .mk (some 68) none (.k (.pick (.tmp 64) (.tmp 67) (.const (.bool false)))), .mk (some 60) none (.k (.mov (.tmp 68)))]) (.cond (.tmp 60) (.ref 8) .skip)
def T61n10 : XC := .seq (.ops [.mk (some 48) none (.k (.fld 0 (.tmp 2))), .mk (some 49) none (.k (.load [.int .i64] false (.tmp 48))), .mk (some 50) none (.k (.cmp .eql .i64 (.tmp 49) (.const (.int .i64 17)))), .mk (some 51) none (.k (.mov (.tmp 50))), .mk (some 52) (some (51, false)) (.k (.fld 0 (.tmp 2))), .mk (some 53) (some (51, false)) (.k (.load [.int .i64] false (.tmp 52))), .mk (some 54) (some (51, false)) (.k (.cmp .eql .i64 (.tmp 53) (.const (.int .i64 18)))), .mk (some 55) none (.k (.pick (.tmp 51) (.const (.bool true)) (.tmp 54))), .mk (some 47) none (.k (.mov (.tmp 55)))]) (.cond (.tmp 47) (.ref 4) (.ref 9))
def T61n11 : XC := .seq (.ops [.mk (some 35) none (.k (.fld 0 (.tmp 2))), .mk (some 36) none (.k (.load [.int .i64] false (.tmp 35))), .mk (some 37) none (.k (.cmp .eql .i64 (.tmp 36) (.const (.int .i64 18)))), .mk (some 38) none (.k (.mov (.tmp 37))), .mk (some 39) (some (38, true)) (.k (.fld 1 (.tmp 1))), .mk (some 40) (some (38, true)) (.k (.load [.bool] false (.tmp 39))), .mk (some 41) (some (38, true)) (.k (.not (.tmp 40))), .mk (some 42) none (.k (.pick (.tmp 38) (.tmp 41) (.const (.bool false)))), .mk (some 34) none (.k (.mov (.tmp 42)))]) (.cond (.tmp 34) (.ref 3) (.ref 10))
def T61n12 : XC := .seq (.ops [.mk (some 23) none (.k (.fld 0 (.tmp 2))), .mk (some 24) none (.k (.load [.int .i64] false (.tmp 23))), .mk (some 25) none (.k (.cmp .eql .i64 (.tmp 24) (.const (.int .i64 17)))), .mk (some 26) none (.k (.mov (.tmp 25))), .mk (some 27) (some (26, true)) (.k (.fld 1 (.tmp 1))), .mk (some 28) (some (26, true)) (.k (.load [.bool] false (.tmp 27))), .mk (some 29) none (.k (.pick (.tmp 26) (.tmp 28) (.const (.bool false)))), .mk (some 22) none (.k (.mov (.tmp 29)))]) (.cond (.tmp 22) (.ref 2) (.ref 11))
def T61n13 : XC := .ops [.mk (some 92) none (.k (.mov (.tmp 0))), .mk (some 93) none (.k (.load [.int .i64, .bool] true (.tmp 5))), .mk (some 94) none (.callv (.tmp 92) [.tmp 93])]
def T61n14 : XC := .seq (.blk 0 (.seq (.ops [.mk (some 13) none (.k (.fld 0 (.tmp 2))), .mk (some 14) none (.k (.load [.int .i64] false (.tmp 13))), .mk (some 15) none (.k (.cmp .eql .i64 (.tmp 14) (.const (.int .i64 1)))), .mk (some 12) none (.k (.mov (.tmp 15)))]) (.cond (.tmp 12) (.ref 1) (.ref 12)))) (.ref 13)
def T61 : Nat → XC
 | 0 => T61n0
 | 1 => T61n1
 | 2 => T61n2
 | 3 => T61n3
 | 4 => T61n4
 | 5 => T61n5
 | 6 => T61n6
 | 7 => T61n7
 | 8 => T61n8
 | 9 => T61n9
 | 10 => T61n10
 | 11 => T61n11
 | 12 => T61n12
 | 13 => T61n13
 | 14 => T61n14
 | _ => .skip
theorem t61n0 : T61 0 = T61n0 := rfl
theorem t61n1 : T61 1 = T61n1 := rfl
theorem t61n2 : T61 2 = T61n2 := rfl
theorem t61n3 : T61 3 = T61n3 := rfl
theorem t61n4 : T61 4 = T61n4 := rfl
theorem t61n5 : T61 5 = T61n5 := rfl
theorem t61n6 : T61 6 = T61n6 := rfl
theorem t61n7 : T61 7 = T61n7 := rfl
theorem t61n8 : T61 8 = T61n8 := rfl
theorem t61n9 : T61 9 = T61n9 := rfl
theorem t61n10 : T61 10 = T61n10 := rfl
theorem t61n11 : T61 11 = T61n11 := rfl
theorem t61n12 : T61 12 = T61n12 := rfl
theorem t61n13 : T61 13 = T61n13 := rfl
theorem t61n14 : T61 14 = T61n14 := rfl
def X61 : XC := .seq (.ops [.mk (some 6) none (.k (.fld 0 (.tmp 1))), .mk (some 7) none (.k (.load [.int .i64] false (.tmp 6))), .mk (some 8) none (.k (.arith .add .i64 (.tmp 7) (.const (.int .i64 1)))), .mk (some 9) none (.k (.fld 1 (.tmp 1))), .mk (some 10) none (.k (.load [.bool] false (.tmp 9))), .mk (some 11) none (.k (.build [.int .i64 0, .bool false] [(0, 1, .tmp 8), (1, 1, .tmp 10)])), .mk (some 5) none (.k (.alloc 67 [.int .i64 0, .bool false])), .mk none none (.k (.store 2 (.tmp 5) (.tmp 11)))]) (.ref 14)
abbrev K61 : List Nat := [0, 1, 2, 3, 5, 12, 17, 22, 34, 47, 60, 76, 88, 91]
theorem n61 : Tryd.f61.ntmps = 95 := by kernel_rfl
theorem r61 : resT Tryd.f61.results.toList = some [] := by kernel_rfl
theorem x61 : cmpF Tryd.prog Tryd.f61 = some (expand T61 16 X61) := by kernel_rfl
def T59n0 : XC := .seq (.ops [.mk (some 5) none (.k (.mov (.tmp 0))), .mk (some 6) none (.call 52 [.tmp 5]), .mk (some 7) none (.k (.mov (.tmp 6))), .mk (some 8) (some (7, true)) (.k (.mov (.tmp 1))), .mk (some 9) (some (7, true)) (.call 52 [.tmp 8]), .mk (some 10) (some (7, true)) (.k (.not (.tmp 9))), .mk (some 11) none (.k (.pick (.tmp 7) (.tmp 10) (.const (.bool false)))), .mk (some 12) none (.k (.mov (.tmp 11))), .mk (some 13) (some (12, false)) (.k (.mov (.tmp 0))), .mk (some 14) (some (12, false)) (.k (.mov (.tmp 1))), .mk (some 15) (some (12, false)) (.k (.cmp .lss .i64 (.tmp 13) (.tmp 14))), .mk (some 16) none (.k (.pick (.tmp 12) (.const (.bool true)) (.tmp 15))), .mk (some 4) none (.k (.mov (.tmp 16)))]) .ret
def T59 : Nat → XC
 | 0 => T59n0
 | _ => .skip
theorem t59n0 : T59 0 = T59n0 := rfl
def X59 : XC := .seq (.ops [.mk (some 4) none (.k (.mov (.const (.bool false))))]) (.ref 0)
abbrev K59 : List Nat := [0, 1, 4]
theorem n59 : Tryd.f59.ntmps = 17 := by kernel_rfl
theorem r59 : resT Tryd.f59.results.toList = some [4] := by kernel_rfl
theorem x59 : cmpF Tryd.prog Tryd.f59 = some (expand T59 2 X59) := by kernel_rfl
end Go.Proofs.YtgghmmjoplddbaaDoor
