/- Printed by program: the small code of functions, and that it is theirs. -/
import Derived.Test.YtaiajnehnjnadaaDoorSxStill
import Derived.Test.YtaiajnehnjnadaaDoorProg
import Derived.KernelRfl
set_option linter.unusedSimpArgs false
set_option linter.unusedVariables false
set_option linter.unnecessarySimpa false
namespace Go.Proofs.YtaiajnehnjnadaaDoor
open Go Go.Sx
set_option maxRecDepth 100000
def T11n0 : XC := .seq (.ops [.mk (some 27) none (.k (.mov (.tmp 8))), .mk (some 2) none (.k (.mov (.const (.slice none 0 0)))), .mk (some 3) none (.k (.mov (.tmp 27))), .mk (some 4) none (.k (.mov (.const (.int .i64 150))))]) .ret
def T11n1 : XC := .seq (.ops [.mk (some 25) none (.k (.mov (.tmp 8))), .mk (some 26) none (.k (.cmp .gtr .i64 (.tmp 25) (.const (.int .i64 0))))]) (.cond (.tmp 26) (.ref 0) .skip)
def T11n2 : XC := .ops [.mk (some 35) none (.k (.mov (.tmp 9))), .mk (some 36) none (.k (.fld 0 (.tmp 11))), .mk (some 37) none (.k (.load [.str] false (.tmp 36))), .mk (some 38) none (.k (.fld 1 (.tmp 11))), .mk (some 39) none (.k (.load [.int .i64] false (.tmp 38))), .mk none none (.k (.mupd .str (.tmp 35) (.tmp 37) (.tmp 39)))]
def T11n3 : XC := .seq (.blk 1 (.seq (.ops [.mk (some 33) none (.k (.idx 2 (.tmp 29) (.tmp 31))), .mk (some 34) none (.k (.load [.str, .int .i64] true (.tmp 33))), .mk (some 11) none (.k (.alloc 39 [.string (ByteArray.mk (Array.mk [])), .int .i64 0])), .mk none none (.k (.store 2 (.tmp 11) (.tmp 34)))]) (.ref 2))) (.ops [.mk (some 40) none (.k (.arith .add .i64 (.tmp 31) (.const (.int .i64 1)))), .mk (some 31) none (.k (.mov (.tmp 40)))])
def T11n4 : XC := .seq (.cond (.tmp 32) .skip (.exit 0)) (.ref 3)
def T11n5 : XC := .seq (.ops [.mk (some 32) none (.k (.cmp .lss .i64 (.tmp 31) (.tmp 30)))]) (.ref 4)
def T11n6 : XC := .ops [.mk (some 50) none (.k (.mov (.tmp 9))), .mk (some 51) none (.k (.fld 6 (.tmp 14))), .mk (some 52) none (.k (.load [.str] false (.tmp 51))), .mk (some 53) none (.k (.lkup .str (.int .i64 0) false (.tmp 50) (.tmp 52))), .mk (some 54) none (.k (.fld 1 (.tmp 14))), .mk (some 55) none (.k (.fld 4 (.tmp 54))), .mk none none (.k (.store 1 (.tmp 55) (.tmp 53)))]
def T11n7 : XC := .ops [.mk (some 56) none (.k (.mov (.tmp 12))), .mk (some 57) none (.k (.fld 1 (.tmp 14))), .mk (some 58) none (.k (.load [.int .i64, .int .i64, .int .i64, .int .i64, .int .i64] true (.tmp 57))), .mk (some 59) none (.k (.buildS 43 1 5 [.int .i64 0, .int .i64 0, .int .i64 0, .int .i64 0, .int .i64 0] [(0, .tmp 58)])), .mk (some 60) none (.k (.app 43 5 40 (.tmp 56) (.tmp 59))), .mk (some 12) none (.k (.mov (.tmp 60)))]
def T11n8 : XC := .seq (.seq (.ops [.mk (some 47) none (.k (.fld 6 (.tmp 14))), .mk (some 48) none (.k (.load [.str] false (.tmp 47))), .mk (some 49) none (.k (.eqs .neq (.tmp 48) (.const (.string (ByteArray.mk (Array.mk []))))))]) (.cond (.tmp 49) (.ref 6) .skip)) (.ref 7)
def T11n9 : XC := .seq (.blk 3 (.seq (.ops [.mk (some 45) none (.k (.idx 7 (.tmp 41) (.tmp 43))), .mk (some 46) none (.k (.load [.int .i64, .int .i64, .int .i64, .int .i64, .int .i64, .int .i64, .str] true (.tmp 45))), .mk (some 14) none (.k (.alloc 65 [.int .i64 0, .int .i64 0, .int .i64 0, .int .i64 0, .int .i64 0, .int .i64 0, .string (ByteArray.mk (Array.mk []))])), .mk none none (.k (.store 7 (.tmp 14) (.tmp 46)))]) (.ref 8))) (.ops [.mk (some 61) none (.k (.arith .add .i64 (.tmp 43) (.const (.int .i64 1)))), .mk (some 43) none (.k (.mov (.tmp 61)))])
def T11n10 : XC := .seq (.cond (.tmp 44) .skip (.exit 2)) (.ref 9)
def T11n11 : XC := .seq (.ops [.mk (some 44) none (.k (.cmp .lss .i64 (.tmp 43) (.tmp 42)))]) (.ref 10)
def T11n12 : XC := .seq (.ops [.mk (some 62) none (.k (.mov (.tmp 12))), .mk (some 2) none (.k (.mov (.tmp 62))), .mk (some 3) none (.k (.mov (.const (.int .i64 0)))), .mk (some 4) none (.k (.mov (.const (.int .i64 0))))]) .ret
def T11n13 : XC := .seq (.seq (.ops [.mk (some 41) none (.k (.mov (.tmp 5))), .mk (some 42) none (.k (.lenS (.tmp 41))), .mk (some 43) none (.k (.mov (.const (.int .i64 0))))]) (.blk 2 (.loop (.ref 11)))) (.ref 12)
def T11n14 : XC := .seq (.ops [.mk (some 12) none (.k (.mov (.const (.slice none 0 0))))]) (.ref 13)
def T11n15 : XC := .seq (.seq (.ops [.mk (some 29) none (.k (.mov (.tmp 6))), .mk (some 30) none (.k (.lenS (.tmp 29))), .mk (some 31) none (.k (.mov (.const (.int .i64 0))))]) (.blk 0 (.loop (.ref 5)))) (.ref 14)
def T11n16 : XC := .seq (.ops [.mk (some 28) none (.k .mkmap), .mk (some 9) none (.k (.mov (.tmp 28)))]) (.ref 15)
def T11n17 : XC := .seq (.seq (.ops [.mk (some 21) none (.k (.mov (.tmp 0))), .mk (some 22) none (.k (.mov (.tmp 5))), .mk (some 23) none (.k (.mov (.tmp 7))), .mk (some 24) none (.call 24 [.tmp 21, .tmp 22, .tmp 23]), .mk (some 8) none (.k (.mov (.tmp 24)))]) (.ref 1)) (.ref 16)
def T11n18 : XC := .seq (.ops [.mk (some 16) none (.k (.mov (.tmp 0))), .mk (some 17) none (.call 23 [.tmp 16]), .mk (some 15) none (.k (.mov (.tmp 17))), .mk (some 18) none (.k (.ext (.tmp 15) 0)), .mk (some 19) none (.k (.ext (.tmp 15) 1)), .mk (some 20) none (.k (.ext (.tmp 15) 2)), .mk (some 5) none (.k (.mov (.tmp 18))), .mk (some 6) none (.k (.mov (.tmp 19))), .mk (some 7) none (.k (.mov (.tmp 20)))]) (.ref 17)
def T11 : Nat → XC
 | 0 => T11n0
 | 1 => T11n1
 | 2 => T11n2
 | 3 => T11n3
 | 4 => T11n4
 | 5 => T11n5
 | 6 => T11n6
 | 7 => T11n7
 | 8 => T11n8
 | 9 => T11n9
 | 10 => T11n10
 | 11 => T11n11
 | 12 => T11n12
 | 13 => T11n13
 | 14 => T11n14
 | 15 => T11n15
 | 16 => T11n16
 | 17 => T11n17
 | 18 => T11n18
 | _ => .skip
theorem t11n0 : T11 0 = T11n0 := rfl
theorem t11n1 : T11 1 = T11n1 := rfl
theorem t11n2 : T11 2 = T11n2 := rfl
theorem t11n3 : T11 3 = T11n3 := rfl
theorem t11n4 : T11 4 = T11n4 := rfl
theorem t11n5 : T11 5 = T11n5 := rfl
theorem t11n6 : T11 6 = T11n6 := rfl
theorem t11n7 : T11 7 = T11n7 := rfl
theorem t11n8 : T11 8 = T11n8 := rfl
theorem t11n9 : T11 9 = T11n9 := rfl
theorem t11n10 : T11 10 = T11n10 := rfl
theorem t11n11 : T11 11 = T11n11 := rfl
theorem t11n12 : T11 12 = T11n12 := rfl
theorem t11n13 : T11 13 = T11n13 := rfl
theorem t11n14 : T11 14 = T11n14 := rfl
theorem t11n15 : T11 15 = T11n15 := rfl
theorem t11n16 : T11 16 = T11n16 := rfl
theorem t11n17 : T11 17 = T11n17 := rfl
theorem t11n18 : T11 18 = T11n18 := rfl
def X11 : XC := .seq (.ops [.mk (some 2) none (.k (.mov (.const (.slice none 0 0)))), .mk (some 3) none (.k (.mov (.const (.int .i64 0)))), .mk (some 4) none (.k (.mov (.const (.int .i64 0))))]) (.ref 18)
abbrev K11 : List Nat := [0, 2, 3, 4, 5, 6, 7, 8, 9, 11, 12, 14, 26, 29, 30, 31, 32, 41, 42, 43, 44, 49]
theorem n11 : Tryd.f11.ntmps = 63 := by kernel_rfl
theorem r11 : resT Tryd.f11.results.toList = some [2, 3, 4] := by kernel_rfl
theorem x11 : cmpF Tryd.prog Tryd.f11 = some (expand T11 20 X11) := by kernel_rfl
def T23n0 : XC := .seq (.ops [.mk (some 8) none (.k (.mov (.tmp 18)))]) (.ops [.mk (some 9) none (.k (.mov (.tmp 19)))])
def T23n1 : XC := .seq (.ops [.mk (some 34) none (.k (.load [.slc] false (.tmp 5))), .mk (some 35) none (.k (.load [.slc] false (.tmp 6))), .mk (some 36) none (.k (.mov (.tmp 8))), .mk none none (.k (.store 1 (.tmp 2) (.tmp 34))), .mk none none (.still 35 (.load [.slc] false (.tmp 6))), .mk none none (.k (.store 1 (.tmp 3) (.tmp 35))), .mk none none (.k (.store 1 (.tmp 4) (.tmp 36)))]) .ret
def T23n2 : XC := .seq (.ops [.mk (some 39) none (.k (.load [.slc] false (.tmp 6))), .mk (some 40) none (.k (.mov (.tmp 10))), .mk (some 41) none (.k (.load [.slc] false (.tmp 5))), .mk (some 42) none (.k (.lenS (.tmp 41))), .mk (some 43) none (.k (.build [.string (ByteArray.mk (Array.mk [])), .int .i64 0] [(0, 1, .tmp 40), (1, 1, .tmp 42)])), .mk (some 44) none (.k (.buildS 39 1 2 [.string (ByteArray.mk (Array.mk [])), .int .i64 0] [(0, .tmp 43)])), .mk (some 45) none (.k (.app 39 2 24 (.tmp 39) (.tmp 44))), .mk none none (.k (.store 1 (.tmp 6) (.tmp 45)))]) (.exit 1)
def T23n3 : XC := .seq (.ops [.mk (some 37) none (.k (.load [.map] false (.tmp 7))), .mk (some 38) none (.k (.mov (.tmp 10))), .mk none none (.k (.mupd .str (.tmp 37) (.tmp 38) (.const (.int .i64 1))))]) (.ref 2)
def T23n4 : XC := .seq (.seq (.ops [.mk (some 30) none (.k (.load [.map] false (.tmp 7))), .mk (some 31) none (.k (.mov (.tmp 10))), .mk (some 32) none (.k (.lkup .str (.int .i64 0) false (.tmp 30) (.tmp 31))), .mk (some 33) none (.k (.cmp .gtr .i64 (.tmp 32) (.const (.int .i64 0))))]) (.cond (.tmp 33) (.ref 1) .skip)) (.ref 3)
def T23n5 : XC := .seq (.ops [.mk (some 25) none (.k (.mov (.tmp 11))), .mk (some 26) none (.k (.mov (.tmp 25))), .mk (some 27) (some (26, true)) (.k (.mov (.tmp 10))), .mk (some 28) (some (26, true)) (.call 38 [.tmp 27]), .mk (some 29) none (.k (.pick (.tmp 26) (.tmp 28) (.const (.bool false))))]) (.cond (.tmp 29) (.ref 4) .skip)
def T23n6 : XC := .seq (.ops [.mk (some 59) none (.k (.load [.slc] false (.tmp 5))), .mk (some 60) none (.k (.load [.slc] false (.tmp 6))), .mk (some 61) none (.k (.mov (.tmp 8))), .mk none none (.k (.store 1 (.tmp 2) (.tmp 59))), .mk none none (.still 60 (.load [.slc] false (.tmp 6))), .mk none none (.k (.store 1 (.tmp 3) (.tmp 60))), .mk none none (.k (.store 1 (.tmp 4) (.tmp 61)))]) .ret
def T23n7 : XC := .ops [.mk (some 62) none (.k (.load [.slc] false (.tmp 5))), .mk (some 63) none (.k (.mov (.tmp 8))), .mk (some 64) none (.k (.load [.int .i64, .int .i64, .int .i64, .int .i64, .int .i64] true (.tmp 12))), .mk (some 65) none (.k (.mov (.tmp 13))), .mk (some 66) none (.k (.build [.int .i64 0, .int .i64 0, .int .i64 0, .int .i64 0, .int .i64 0, .int .i64 0, .string (ByteArray.mk (Array.mk []))] [(0, 1, .tmp 63), (1, 5, .tmp 64), (6, 1, .tmp 65)])), .mk (some 67) none (.k (.buildS 65 1 7 [.int .i64 0, .int .i64 0, .int .i64 0, .int .i64 0, .int .i64 0, .int .i64 0, .string (ByteArray.mk (Array.mk []))] [(0, .tmp 66)])), .mk (some 68) none (.k (.app 65 7 64 (.tmp 62) (.tmp 67))), .mk none none (.k (.store 1 (.tmp 5) (.tmp 68)))]
def T23n8 : XC := .seq (.seq (.ops [.mk (some 52) none (.k (.mov (.tmp 14))), .mk (some 53) none (.k (.not (.tmp 52))), .mk (some 54) none (.k (.mov (.tmp 53))), .mk (some 55) (some (54, false)) (.k (.load [.slc] false (.tmp 5))), .mk (some 56) (some (54, false)) (.k (.lenS (.tmp 55))), .mk (some 57) (some (54, false)) (.k (.cmp .geq .i64 (.tmp 56) (.const (.int .i64 1024)))), .mk (some 58) none (.k (.pick (.tmp 54) (.const (.bool true)) (.tmp 57)))]) (.cond (.tmp 58) (.ref 6) .skip)) (.ref 7)
def T23n9 : XC := .seq (.ops [.mk (some 47) none (.k (.mov (.tmp 9))), .mk (some 48) none (.call 39 [.tmp 47]), .mk (some 46) none (.k (.mov (.tmp 48))), .mk (some 49) none (.k (.ext (.tmp 46) 0)), .mk (some 50) none (.k (.ext (.tmp 46) 1)), .mk (some 51) none (.k (.ext (.tmp 46) 2)), .mk (some 12) none (.k (.alloc 43 [.int .i64 0, .int .i64 0, .int .i64 0, .int .i64 0, .int .i64 0])), .mk none none (.k (.store 5 (.tmp 12) (.tmp 49))), .mk (some 13) none (.k (.mov (.tmp 50))), .mk (some 14) none (.k (.mov (.tmp 51)))]) (.ref 8)
def T23n10 : XC := .blk 1 (.seq (.seq (.ops [.mk (some 21) none (.k (.mov (.tmp 9))), .mk (some 22) none (.call 37 [.tmp 21, .const (.string (ByteArray.mk (Array.mk [UInt8.ofNat 58])))]), .mk (some 20) none (.k (.mov (.tmp 22))), .mk (some 23) none (.k (.ext (.tmp 20) 0)), .mk (some 24) none (.k (.ext (.tmp 20) 1)), .mk (some 10) none (.k (.mov (.tmp 23))), .mk (some 11) none (.k (.mov (.tmp 24)))]) (.ref 5)) (.ref 9))
def T23n11 : XC := .blk 0 (.rng (.tmp 17) [18, 19] (.ref 0) (.ref 10))
def T23n12 : XC := .seq (.ops [.mk (some 69) none (.k (.load [.slc] false (.tmp 5))), .mk (some 70) none (.k (.load [.slc] false (.tmp 6))), .mk none none (.k (.store 1 (.tmp 2) (.tmp 69))), .mk none none (.still 70 (.load [.slc] false (.tmp 6))), .mk none none (.k (.store 1 (.tmp 3) (.tmp 70))), .mk none none (.k (.store 1 (.tmp 4) (.const (.int .i64 0))))]) .ret
def T23n13 : XC := .seq (.seq (.ops [.mk (some 16) none (.k (.mov (.tmp 0))), .mk (some 17) none (.call 36 [.tmp 16])]) (.ref 11)) (.ref 12)
def T23n14 : XC := .seq (.ops [.mk (some 15) none (.k .mkmap), .mk (some 7) none (.k (.alloc 63 [.map none])), .mk none none (.k (.store 1 (.tmp 7) (.tmp 15)))]) (.ref 13)
def T23n15 : XC := .seq (.ops [.mk (some 6) none (.k (.alloc 35 [.slice none 0 0]))]) (.ref 14)
def T23n16 : XC := .seq (.ops [.mk (some 5) none (.k (.alloc 59 [.slice none 0 0]))]) (.ref 15)
def T23 : Nat → XC
 | 0 => T23n0
 | 1 => T23n1
 | 2 => T23n2
 | 3 => T23n3
 | 4 => T23n4
 | 5 => T23n5
 | 6 => T23n6
 | 7 => T23n7
 | 8 => T23n8
 | 9 => T23n9
 | 10 => T23n10
 | 11 => T23n11
 | 12 => T23n12
 | 13 => T23n13
 | 14 => T23n14
 | 15 => T23n15
 | 16 => T23n16
 | _ => .skip
theorem t23n0 : T23 0 = T23n0 := rfl
theorem t23n1 : T23 1 = T23n1 := rfl
theorem t23n2 : T23 2 = T23n2 := rfl
theorem t23n3 : T23 3 = T23n3 := rfl
theorem t23n4 : T23 4 = T23n4 := rfl
theorem t23n5 : T23 5 = T23n5 := rfl
theorem t23n6 : T23 6 = T23n6 := rfl
theorem t23n7 : T23 7 = T23n7 := rfl
theorem t23n8 : T23 8 = T23n8 := rfl
theorem t23n9 : T23 9 = T23n9 := rfl
theorem t23n10 : T23 10 = T23n10 := rfl
theorem t23n11 : T23 11 = T23n11 := rfl
theorem t23n12 : T23 12 = T23n12 := rfl
theorem t23n13 : T23 13 = T23n13 := rfl
theorem t23n14 : T23 14 = T23n14 := rfl
theorem t23n15 : T23 15 = T23n15 := rfl
theorem t23n16 : T23 16 = T23n16 := rfl
def X23 : XC := .seq (.ops [.mk (some 2) none (.k (.alloc 59 [.slice none 0 0])), .mk (some 3) none (.k (.alloc 35 [.slice none 0 0])), .mk (some 4) none (.k (.alloc 3 [.int .i64 0]))]) (.ref 16)
abbrev K23 : List Nat := [0, 2, 3, 4, 5, 6, 7, 8, 9, 10, 11, 12, 13, 14, 17, 18, 19, 29, 33, 58]
theorem n23 : Tryd.f23.ntmps = 71 := by kernel_rfl
theorem r23 : rvOf Tryd.prog Tryd.f23.results.toList = some [RV.cell 2 1 false, RV.cell 3 1 false, RV.cell 4 1 false] := by kernel_rfl
theorem x23 : cmpF Tryd.prog Tryd.f23 = some (expand T23 18 X23) := by kernel_rfl
def T24n0 : XC := .seq (.ops [.mk (some 28) none (.k (.fld 0 (.tmp 9))), .mk (some 29) none (.k (.load [.int .i64] false (.tmp 28))), .mk (some 6) none (.k (.mov (.tmp 29)))]) .ret
def T24n1 : XC := .seq (.ops [.mk (some 18) none (.k (.fld 6 (.tmp 9))), .mk (some 19) none (.k (.load [.str] false (.tmp 18))), .mk (some 20) none (.k (.eqs .neq (.tmp 19) (.const (.string (ByteArray.mk (Array.mk [])))))), .mk (some 21) none (.k (.mov (.tmp 20))), .mk (some 22) (some (21, true)) (.k (.mov (.tmp 7))), .mk (some 23) (some (21, true)) (.k (.fld 6 (.tmp 9))), .mk (some 24) (some (21, true)) (.k (.load [.str] false (.tmp 23))), .mk (some 25) (some (21, true)) (.k (.lkup .str (.int .i64 0) false (.tmp 22) (.tmp 24))), .mk (some 26) (some (21, true)) (.k (.cmp .eql .i64 (.tmp 25) (.const (.int .i64 0)))), .mk (some 27) none (.k (.pick (.tmp 21) (.tmp 26) (.const (.bool false))))]) (.cond (.tmp 27) (.ref 0) .skip)
def T24n2 : XC := .seq (.blk 1 (.seq (.ops [.mk (some 16) none (.k (.idx 7 (.tmp 12) (.tmp 14))), .mk (some 17) none (.k (.load [.int .i64, .int .i64, .int .i64, .int .i64, .int .i64, .int .i64, .str] true (.tmp 16))), .mk (some 9) none (.k (.alloc 65 [.int .i64 0, .int .i64 0, .int .i64 0, .int .i64 0, .int .i64 0, .int .i64 0, .string (ByteArray.mk (Array.mk []))])), .mk none none (.k (.store 7 (.tmp 9) (.tmp 17)))]) (.ref 1))) (.ops [.mk (some 30) none (.k (.arith .add .i64 (.tmp 14) (.const (.int .i64 1)))), .mk (some 14) none (.k (.mov (.tmp 30)))])
def T24n3 : XC := .seq (.cond (.tmp 15) .skip (.exit 0)) (.ref 2)
def T24n4 : XC := .seq (.ops [.mk (some 15) none (.k (.cmp .lss .i64 (.tmp 14) (.tmp 13)))]) (.ref 3)
def T24n5 : XC := .seq (.ops [.mk (some 31) none (.k (.mov (.tmp 2))), .mk (some 6) none (.k (.mov (.tmp 31)))]) .ret
def T24n6 : XC := .seq (.seq (.ops [.mk (some 12) none (.k (.mov (.tmp 1))), .mk (some 13) none (.k (.lenS (.tmp 12))), .mk (some 14) none (.k (.mov (.const (.int .i64 0))))]) (.blk 0 (.loop (.ref 4)))) (.ref 5)
def T24n7 : XC := .seq (.ops [.mk (some 10) none (.k (.mov (.tmp 0))), .mk (some 11) none (.call 40 [.tmp 10]), .mk (some 7) none (.k (.mov (.tmp 11)))]) (.ref 6)
def T24 : Nat → XC
 | 0 => T24n0
 | 1 => T24n1
 | 2 => T24n2
 | 3 => T24n3
 | 4 => T24n4
 | 5 => T24n5
 | 6 => T24n6
 | 7 => T24n7
 | _ => .skip
theorem t24n0 : T24 0 = T24n0 := rfl
theorem t24n1 : T24 1 = T24n1 := rfl
theorem t24n2 : T24 2 = T24n2 := rfl
theorem t24n3 : T24 3 = T24n3 := rfl
theorem t24n4 : T24 4 = T24n4 := rfl
theorem t24n5 : T24 5 = T24n5 := rfl
theorem t24n6 : T24 6 = T24n6 := rfl
theorem t24n7 : T24 7 = T24n7 := rfl
def X24 : XC := .seq (.ops [.mk (some 6) none (.k (.mov (.const (.int .i64 0))))]) (.ref 7)
abbrev K24 : List Nat := [0, 1, 2, 6, 7, 9, 12, 13, 14, 15, 27]
theorem n24 : Tryd.f24.ntmps = 32 := by kernel_rfl
theorem r24 : resT Tryd.f24.results.toList = some [6] := by kernel_rfl
theorem x24 : cmpF Tryd.prog Tryd.f24 = some (expand T24 9 X24) := by kernel_rfl
def T36n0 : XC := .seq (.ops [.mk (some 3) none (.k (.mkfn (.func 47) [] [.tmp 1])), .mk (some 2) none (.k (.mov (.tmp 3)))]) .ret
def T36 : Nat → XC
 | 0 => T36n0
 | _ => .skip
theorem t36n0 : T36 0 = T36n0 := rfl
def X36 : XC := .seq (.ops [.mk (some 1) none (.k (.box 9 1 (.tmp 0))), .mk (some 2) none (.k (.mov (.const .nilFunc)))]) (.ref 0)
abbrev K36 : List Nat := [0, 1, 2]
theorem n36 : Tryd.f36.ntmps = 4 := by kernel_rfl
theorem r36 : resT Tryd.f36.results.toList = some [2] := by kernel_rfl
theorem x36 : cmpF Tryd.prog Tryd.f36 = some (expand T36 2 X36) := by kernel_rfl
def T38n0 : XC := .seq (.ops [.mk (some 2) none (.k (.mov (.const (.bool false))))]) .ret
def T38n1 : XC := .seq (.ops [.mk (some 2) none (.k (.mov (.const (.bool false))))]) .ret
def T38n2 : XC := .seq (.ops [.mk (some 31) none (.k (.mov (.tmp 4))), .mk (some 32) none (.k (.cmp .lss .u8 (.tmp 31) (.const (.int .u8 97)))), .mk (some 33) none (.k (.mov (.tmp 32))), .mk (some 34) (some (33, false)) (.k (.mov (.tmp 4))), .mk (some 35) (some (33, false)) (.k (.cmp .gtr .u8 (.tmp 34) (.const (.int .u8 122)))), .mk (some 36) none (.k (.pick (.tmp 33) (.const (.bool true)) (.tmp 35))), .mk (some 37) none (.k (.mov (.tmp 36))), .mk (some 38) (some (37, true)) (.k (.mov (.tmp 4))), .mk (some 39) (some (37, true)) (.k (.cmp .lss .u8 (.tmp 38) (.const (.int .u8 48)))), .mk (some 40) (some (37, true)) (.k (.mov (.tmp 39))), .mk (some 41) (some (40, false)) (.k (.mov (.tmp 4))), .mk (some 42) (some (40, false)) (.k (.cmp .gtr .u8 (.tmp 41) (.const (.int .u8 57)))), .mk (some 43) (some (37, true)) (.k (.pick (.tmp 40) (.const (.bool true)) (.tmp 42))), .mk (some 44) none (.k (.pick (.tmp 37) (.tmp 43) (.const (.bool false)))), .mk (some 45) none (.k (.mov (.tmp 44))), .mk (some 46) (some (45, true)) (.k (.mov (.tmp 4))), .mk (some 47) (some (45, true)) (.k (.cmp .neq .u8 (.tmp 46) (.const (.int .u8 95)))), .mk (some 48) none (.k (.pick (.tmp 45) (.tmp 47) (.const (.bool false))))]) (.cond (.tmp 48) (.ref 1) .skip)
def T38n3 : XC := .seq (.ops [.mk (some 28) none (.k (.mov (.tmp 0))), .mk (some 29) none (.k (.mov (.tmp 3))), .mk (some 30) none (.k (.ixT (.tmp 28) (.tmp 29))), .mk (some 4) none (.k (.mov (.tmp 30)))]) (.ref 2)
def T38n4 : XC := .seq (.blk 1 (.seq (.ops [.mk (some 27) none (.k (.mov (.tmp 25))), .mk (some 3) none (.k (.mov (.tmp 27)))]) (.ref 3))) (.ops [.mk (some 49) none (.k (.arith .add .i64 (.tmp 25) (.const (.int .i64 1)))), .mk (some 25) none (.k (.mov (.tmp 49)))])
def T38n5 : XC := .seq (.cond (.tmp 26) .skip (.exit 0)) (.ref 4)
def T38n6 : XC := .seq (.ops [.mk (some 26) none (.k (.cmp .lss .i64 (.tmp 25) (.tmp 24)))]) (.ref 5)
def T38n7 : XC := .seq (.ops [.mk (some 50) none (.k (.mov (.tmp 0))), .mk (some 51) none (.call 52 [.tmp 50]), .mk (some 52) none (.k (.not (.tmp 51))), .mk (some 2) none (.k (.mov (.tmp 52)))]) .ret
def T38n8 : XC := .seq (.seq (.ops [.mk (some 23) none (.k (.mov (.tmp 0))), .mk (some 24) none (.k (.lenT (.tmp 23))), .mk (some 25) none (.k (.mov (.const (.int .i64 0))))]) (.blk 0 (.loop (.ref 6)))) (.ref 7)
def T38n9 : XC := .seq (.seq (.ops [.mk (some 5) none (.k (.mov (.tmp 0))), .mk (some 6) none (.k (.lenT (.tmp 5))), .mk (some 7) none (.k (.cmp .lss .i64 (.tmp 6) (.const (.int .i64 1)))), .mk (some 8) none (.k (.mov (.tmp 7))), .mk (some 9) (some (8, false)) (.k (.mov (.tmp 0))), .mk (some 10) (some (8, false)) (.k (.lenT (.tmp 9))), .mk (some 11) (some (8, false)) (.k (.cmp .gtr .i64 (.tmp 10) (.const (.int .i64 16)))), .mk (some 12) none (.k (.pick (.tmp 8) (.const (.bool true)) (.tmp 11))), .mk (some 13) none (.k (.mov (.tmp 12))), .mk (some 14) (some (13, false)) (.k (.mov (.tmp 0))), .mk (some 15) (some (13, false)) (.k (.ixT (.tmp 14) (.const (.int .i64 0)))), .mk (some 16) (some (13, false)) (.k (.cmp .lss .u8 (.tmp 15) (.const (.int .u8 97)))), .mk (some 17) none (.k (.pick (.tmp 13) (.const (.bool true)) (.tmp 16))), .mk (some 18) none (.k (.mov (.tmp 17))), .mk (some 19) (some (18, false)) (.k (.mov (.tmp 0))), .mk (some 20) (some (18, false)) (.k (.ixT (.tmp 19) (.const (.int .i64 0)))), .mk (some 21) (some (18, false)) (.k (.cmp .gtr .u8 (.tmp 20) (.const (.int .u8 122)))), .mk (some 22) none (.k (.pick (.tmp 18) (.const (.bool true)) (.tmp 21)))]) (.cond (.tmp 22) (.ref 0) .skip)) (.ref 8)
def T38 : Nat → XC
 | 0 => T38n0
 | 1 => T38n1
 | 2 => T38n2
 | 3 => T38n3
 | 4 => T38n4
 | 5 => T38n5
 | 6 => T38n6
 | 7 => T38n7
 | 8 => T38n8
 | 9 => T38n9
 | _ => .skip
theorem t38n0 : T38 0 = T38n0 := rfl
theorem t38n1 : T38 1 = T38n1 := rfl
theorem t38n2 : T38 2 = T38n2 := rfl
theorem t38n3 : T38 3 = T38n3 := rfl
theorem t38n4 : T38 4 = T38n4 := rfl
theorem t38n5 : T38 5 = T38n5 := rfl
theorem t38n6 : T38 6 = T38n6 := rfl
theorem t38n7 : T38 7 = T38n7 := rfl
theorem t38n8 : T38 8 = T38n8 := rfl
theorem t38n9 : T38 9 = T38n9 := rfl
def X38 : XC := .seq (.ops [.mk (some 2) none (.k (.mov (.const (.bool false))))]) (.ref 9)
abbrev K38 : List Nat := [0, 2, 3, 4, 22, 24, 25, 26, 48]
theorem n38 : Tryd.f38.ntmps = 53 := by kernel_rfl
theorem r38 : resT Tryd.f38.results.toList = some [2] := by kernel_rfl
theorem x38 : cmpF Tryd.prog Tryd.f38 = some (expand T38 11 X38) := by kernel_rfl
def T39n0 : XC := .seq (.ops [.mk (some 15) none (.k (.load [.int .i64, .int .i64, .int .i64, .int .i64, .int .i64] true (.tmp 5))), .mk none none (.k (.store 5 (.tmp 2) (.tmp 15))), .mk (some 3) none (.k (.mov (.const (.string (ByteArray.mk (Array.mk [])))))), .mk (some 4) none (.k (.mov (.const (.bool true))))]) .ret
def T39n1 : XC := .seq (.ops [.mk (some 28) none (.k (.build [.int .i64 0, .int .i64 0, .int .i64 0, .int .i64 0, .int .i64 0] [])), .mk none none (.k (.store 5 (.tmp 2) (.tmp 28))), .mk (some 3) none (.k (.mov (.const (.string (ByteArray.mk (Array.mk [])))))), .mk (some 4) none (.k (.mov (.const (.bool false))))]) .ret
def T39n2 : XC := .seq (.ops [.mk (some 54) none (.k (.build [.int .i64 0, .int .i64 0, .int .i64 0, .int .i64 0, .int .i64 0] [])), .mk none none (.k (.store 5 (.tmp 2) (.tmp 54))), .mk (some 3) none (.k (.mov (.const (.string (ByteArray.mk (Array.mk [])))))), .mk (some 4) none (.k (.mov (.const (.bool false))))]) .ret
def T39n3 : XC := .seq (.ops [.mk (some 55) none (.k (.load [.int .i64, .int .i64, .int .i64, .int .i64, .int .i64] true (.tmp 5))), .mk (some 56) none (.k (.mov (.tmp 0))), .mk (some 57) none (.k (.mov (.tmp 7))), .mk (some 58) none (.k (.arith .add .i64 (.tmp 57) (.const (.int .i64 1)))), .mk (some 59) none (.k (.subT (.tmp 56) (some (.tmp 58)) none)), .mk none none (.k (.store 5 (.tmp 2) (.tmp 55))), .mk (some 3) none (.k (.mov (.tmp 59))), .mk (some 4) none (.k (.mov (.const (.bool true))))]) .ret
def T39n4 : XC := .seq (.seq (.ops [.mk (some 37) none (.k (.mov (.tmp 6))), .mk (some 38) none (.k (.cmp .neq .i64 (.tmp 37) (.const (.int .i64 0)))), .mk (some 39) none (.k (.mov (.tmp 38))), .mk (some 40) (some (39, false)) (.k (.fld 0 (.tmp 5))), .mk (some 41) (some (39, false)) (.k (.load [.int .i64] false (.tmp 40))), .mk (some 42) (some (39, false)) (.call 25 [.tmp 41]), .mk (some 43) (some (39, false)) (.k (.not (.tmp 42))), .mk (some 44) none (.k (.pick (.tmp 39) (.const (.bool true)) (.tmp 43))), .mk (some 45) none (.k (.mov (.tmp 44))), .mk (some 46) (some (45, false)) (.k (.load [.int .i64, .int .i64, .int .i64, .int .i64, .int .i64] true (.tmp 5))), .mk (some 47) (some (45, false)) (.call 26 [.tmp 46]), .mk (some 48) (some (45, false)) (.k (.not (.tmp 47))), .mk (some 49) none (.k (.pick (.tmp 45) (.const (.bool true)) (.tmp 48))), .mk (some 50) none (.k (.mov (.tmp 49))), .mk (some 51) (some (50, false)) (.k (.mov (.tmp 0))), .mk (some 52) (some (50, false)) (.call 27 [.tmp 51, .const (.string (ByteArray.mk (Array.mk [UInt8.ofNat 114, UInt8.ofNat 97, UInt8.ofNat 119])))]), .mk (some 53) none (.k (.pick (.tmp 50) (.const (.bool true)) (.tmp 52)))]) (.cond (.tmp 53) (.ref 2) .skip)) (.ref 3)
def T39n5 : XC := .seq (.ops [.mk (some 30) none (.k (.mov (.tmp 0))), .mk (some 31) none (.k (.mov (.tmp 7))), .mk (some 32) none (.k (.subT (.tmp 30) none (some (.tmp 31)))), .mk (some 33) none (.k (.cat (.tmp 32) (.const (.string (ByteArray.mk (Array.mk [UInt8.ofNat 32, UInt8.ofNat 48])))))), .mk (some 34) none (.call 53 [.tmp 33]), .mk (some 29) none (.k (.mov (.tmp 34))), .mk (some 35) none (.k (.ext (.tmp 29) 0)), .mk (some 36) none (.k (.ext (.tmp 29) 1)), .mk none none (.k (.store 5 (.tmp 5) (.tmp 35))), .mk (some 6) none (.k (.mov (.tmp 36)))]) (.ref 4)
def T39n6 : XC := .seq (.seq (.ops [.mk (some 18) none (.k (.mov (.tmp 7))), .mk (some 19) none (.k (.cmp .lss .i64 (.tmp 18) (.const (.int .i64 0)))), .mk (some 20) none (.k (.mov (.tmp 19))), .mk (some 21) (some (20, false)) (.k (.mov (.tmp 0))), .mk (some 22) (some (20, false)) (.k (.mov (.tmp 7))), .mk (some 23) (some (20, false)) (.k (.arith .add .i64 (.tmp 22) (.const (.int .i64 1)))), .mk (some 24) (some (20, false)) (.k (.subT (.tmp 21) (some (.tmp 23)) none)), .mk (some 25) (some (20, false)) (.call 38 [.tmp 24]), .mk (some 26) (some (20, false)) (.k (.not (.tmp 25))), .mk (some 27) none (.k (.pick (.tmp 20) (.const (.bool true)) (.tmp 26)))]) (.cond (.tmp 27) (.ref 1) .skip)) (.ref 5)
def T39n7 : XC := .seq (.ops [.mk (some 16) none (.k (.mov (.tmp 0))), .mk (some 17) none (.call 18 [.tmp 16, .const (.int .u8 32)]), .mk (some 7) none (.k (.mov (.tmp 17)))]) (.ref 6)
def T39n8 : XC := .seq (.seq (.ops [.mk (some 13) none (.k (.mov (.tmp 6))), .mk (some 14) none (.k (.cmp .eql .i64 (.tmp 13) (.const (.int .i64 0))))]) (.cond (.tmp 14) (.ref 0) .skip)) (.ref 7)
def T39n9 : XC := .seq (.ops [.mk (some 9) none (.k (.mov (.tmp 0))), .mk (some 10) none (.call 53 [.tmp 9]), .mk (some 8) none (.k (.mov (.tmp 10))), .mk (some 11) none (.k (.ext (.tmp 8) 0)), .mk (some 12) none (.k (.ext (.tmp 8) 1)), .mk (some 5) none (.k (.alloc 43 [.int .i64 0, .int .i64 0, .int .i64 0, .int .i64 0, .int .i64 0])), .mk none none (.k (.store 5 (.tmp 5) (.tmp 11))), .mk (some 6) none (.k (.mov (.tmp 12)))]) (.ref 8)
def T39 : Nat → XC
 | 0 => T39n0
 | 1 => T39n1
 | 2 => T39n2
 | 3 => T39n3
 | 4 => T39n4
 | 5 => T39n5
 | 6 => T39n6
 | 7 => T39n7
 | 8 => T39n8
 | 9 => T39n9
 | _ => .skip
theorem t39n0 : T39 0 = T39n0 := rfl
theorem t39n1 : T39 1 = T39n1 := rfl
theorem t39n2 : T39 2 = T39n2 := rfl
theorem t39n3 : T39 3 = T39n3 := rfl
theorem t39n4 : T39 4 = T39n4 := rfl
theorem t39n5 : T39 5 = T39n5 := rfl
theorem t39n6 : T39 6 = T39n6 := rfl
theorem t39n7 : T39 7 = T39n7 := rfl
theorem t39n8 : T39 8 = T39n8 := rfl
theorem t39n9 : T39 9 = T39n9 := rfl
def X39 : XC := .seq (.ops [.mk (some 2) none (.k (.alloc 43 [.int .i64 0, .int .i64 0, .int .i64 0, .int .i64 0, .int .i64 0])), .mk (some 3) none (.k (.mov (.const (.string (ByteArray.mk (Array.mk [])))))), .mk (some 4) none (.k (.mov (.const (.bool false))))]) (.ref 9)
abbrev K39 : List Nat := [0, 2, 3, 4, 5, 6, 7, 14, 27, 53]
theorem n39 : Tryd.f39.ntmps = 60 := by kernel_rfl
theorem r39 : rvOf Tryd.prog Tryd.f39.results.toList = some [RV.cell 2 5 true, RV.tmp 3, RV.tmp 4] := by kernel_rfl
theorem x39 : cmpF Tryd.prog Tryd.f39 = some (expand T39 11 X39) := by kernel_rfl
def T40n0 : XC := .ops [.mk (some 23) none (.k (.load [.map] false (.tmp 3))), .mk (some 24) none (.k (.mov (.tmp 6))), .mk none none (.k (.mupd .str (.tmp 23) (.tmp 24) (.const (.int .i64 1))))]
def T40n1 : XC := .seq (.ops [.mk (some 18) none (.k (.mov (.tmp 7))), .mk (some 19) none (.k (.mov (.tmp 18))), .mk (some 20) (some (19, true)) (.k (.mov (.tmp 6))), .mk (some 21) (some (19, true)) (.call 38 [.tmp 20]), .mk (some 22) none (.k (.pick (.tmp 19) (.tmp 21) (.const (.bool false))))]) (.cond (.tmp 22) (.ref 0) .skip)
def T40n2 : XC := .blk 1 (.seq (.ops [.mk (some 14) none (.k (.mov (.tmp 5))), .mk (some 15) none (.call 37 [.tmp 14, .const (.string (ByteArray.mk (Array.mk [UInt8.ofNat 58])))]), .mk (some 13) none (.k (.mov (.tmp 15))), .mk (some 16) none (.k (.ext (.tmp 13) 0)), .mk (some 17) none (.k (.ext (.tmp 13) 1)), .mk (some 6) none (.k (.mov (.tmp 16))), .mk (some 7) none (.k (.mov (.tmp 17)))]) (.ref 1))
def T40n3 : XC := .blk 0 (.rng (.tmp 10) [11, 12] (.ops [.mk (some 5) none (.k (.mov (.tmp 12)))]) (.ref 2))
def T40n4 : XC := .seq (.ops [.mk (some 25) none (.k (.load [.map] false (.tmp 3))), .mk (some 2) none (.k (.mov (.tmp 25)))]) .ret
def T40n5 : XC := .seq (.seq (.ops [.mk (some 9) none (.k (.mov (.tmp 0))), .mk (some 10) none (.call 36 [.tmp 9])]) (.ref 3)) (.ref 4)
def T40n6 : XC := .seq (.ops [.mk (some 8) none (.k .mkmap), .mk (some 3) none (.k (.alloc 63 [.map none])), .mk none none (.k (.store 1 (.tmp 3) (.tmp 8)))]) (.ref 5)
def T40 : Nat → XC
 | 0 => T40n0
 | 1 => T40n1
 | 2 => T40n2
 | 3 => T40n3
 | 4 => T40n4
 | 5 => T40n5
 | 6 => T40n6
 | _ => .skip
theorem t40n0 : T40 0 = T40n0 := rfl
theorem t40n1 : T40 1 = T40n1 := rfl
theorem t40n2 : T40 2 = T40n2 := rfl
theorem t40n3 : T40 3 = T40n3 := rfl
theorem t40n4 : T40 4 = T40n4 := rfl
theorem t40n5 : T40 5 = T40n5 := rfl
theorem t40n6 : T40 6 = T40n6 := rfl
def X40 : XC := .seq (.ops [.mk (some 2) none (.k (.mov (.const (.map none))))]) (.ref 6)
abbrev K40 : List Nat := [0, 2, 3, 5, 6, 7, 10, 12, 22]
theorem n40 : Tryd.f40.ntmps = 26 := by kernel_rfl
theorem r40 : resT Tryd.f40.results.toList = some [2] := by kernel_rfl
theorem x40 : cmpF Tryd.prog Tryd.f40 = some (expand T40 8 X40) := by kernel_rfl
def T47n0 : XC := .seq (.ops [.mk (some 23) none (.k (.mov (.tmp 0))), .mk (some 24) none (.k (.mov (.tmp 3))), .mk (some 25) none (.k (.arith .add .i64 (.tmp 24) (.const (.int .i64 1)))), .mk (some 26) none (.k (.mov (.tmp 4))), .mk (some 27) none (.callv (.tmp 23) [.tmp 25, .tmp 26]), .mk (some 28) none (.k (.not (.tmp 27)))]) (.cond (.tmp 28) .ret .skip)
def T47n1 : XC := .seq (.seq (.ops [.mk (some 21) none (.k (.mov (.tmp 4))), .mk (some 22) none (.k (.eqs .eql (.tmp 21) (.const (.string (ByteArray.mk (Array.mk []))))))]) (.cond (.tmp 22) (.exit 1) .skip)) (.ref 0)
def T47n2 : XC := .seq (.ops [.mk (some 19) none (.k (.mov (.tmp 4))), .mk (some 20) none (.call 50 [.tmp 19, .const (.string (ByteArray.mk (Array.mk [UInt8.ofNat 32, UInt8.ofNat 9])))]), .mk (some 4) none (.k (.mov (.tmp 20)))]) (.ref 1)
def T47n3 : XC := .seq (.ops [.mk (some 14) none (.k (.mov (.tmp 4))), .mk (some 15) none (.call 49 [.tmp 14, .const (.string (ByteArray.mk (Array.mk [UInt8.ofNat 59])))]), .mk (some 13) none (.k (.mov (.tmp 15))), .mk (some 16) none (.k (.ext (.tmp 13) 0)), .mk (some 17) none (.k (.ext (.tmp 13) 1)), .mk (some 18) none (.k (.ext (.tmp 13) 2)), .mk (some 4) none (.k (.mov (.tmp 16)))]) (.ref 2)
def T47n4 : XC := .seq (.blk 1 (.seq (.ops [.mk (some 10) none (.k (.mov (.tmp 8))), .mk (some 11) none (.k (.idx 1 (.tmp 6) (.tmp 8))), .mk (some 12) none (.k (.load [.str] false (.tmp 11))), .mk (some 3) none (.k (.mov (.tmp 10))), .mk (some 4) none (.k (.mov (.tmp 12)))]) (.ref 3))) (.ops [.mk (some 29) none (.k (.arith .add .i64 (.tmp 8) (.const (.int .i64 1)))), .mk (some 8) none (.k (.mov (.tmp 29)))])
def T47n5 : XC := .seq (.cond (.tmp 9) .skip (.exit 0)) (.ref 4)
def T47n6 : XC := .seq (.ops [.mk (some 9) none (.k (.cmp .lss .i64 (.tmp 8) (.tmp 7)))]) (.ref 5)
def T47n7 : XC := .seq (.ops [.mk (some 5) none (.k (.load [.str] false (.tmp 1))), .mk (some 6) none (.call 48 [.tmp 5, .const (.string (ByteArray.mk (Array.mk [UInt8.ofNat 10])))]), .mk (some 7) none (.k (.lenS (.tmp 6))), .mk (some 8) none (.k (.mov (.const (.int .i64 0))))]) (.blk 0 (.loop (.ref 6)))
def T47 : Nat → XC
 | 0 => T47n0
 | 1 => T47n1
 | 2 => T47n2
 | 3 => T47n3
 | 4 => T47n4
 | 5 => T47n5
 | 6 => T47n6
 | 7 => T47n7
 | _ => .skip
theorem t47n0 : T47 0 = T47n0 := rfl
theorem t47n1 : T47 1 = T47n1 := rfl
theorem t47n2 : T47 2 = T47n2 := rfl
theorem t47n3 : T47 3 = T47n3 := rfl
theorem t47n4 : T47 4 = T47n4 := rfl
theorem t47n5 : T47 5 = T47n5 := rfl
theorem t47n6 : T47 6 = T47n6 := rfl
theorem t47n7 : T47 7 = T47n7 := rfl
def X47 : XC := .scp (.seq (.lab) (.ref 7))
abbrev K47 : List Nat := [0, 1, 3, 4, 6, 7, 8, 9, 22, 28]
theorem n47 : Tryd.f47.ntmps = 30 := by kernel_rfl
theorem r47 : resT Tryd.f47.results.toList = some [] := by kernel_rfl
theorem x47 : cmpF Tryd.prog Tryd.f47 = some (expand T47 9 X47) := by kernel_rfl
def T52n0 : XC := .seq (.ops [.mk (some 2) none (.k (.mov (.const (.bool true))))]) .ret
def T52n1 : XC := .seq (.ops [.mk (some 2) none (.k (.mov (.const (.bool true))))]) .ret
def T52n2 : XC := .seq (.ops [.mk (some 21) none (.k (.mov (.tmp 4))), .mk (some 22) none (.k (.mov (.tmp 0))), .mk (some 23) none (.k (.eqs .eql (.tmp 21) (.tmp 22)))]) (.cond (.tmp 23) (.ref 1) .skip)
def T52n3 : XC := .ops [.mk (some 11) none (.k (.mov (.tmp 3))), .mk (some 12) none (.k (.arith .add .i64 (.tmp 11) (.const (.int .i64 1)))), .mk (some 3) none (.k (.mov (.tmp 12)))]
def T52n4 : XC := .seq (.blk 1 (.seq (.ops [.mk (some 14) none (.k (.mov (.tmp 3))), .mk (some 15) none (.k (.build [.int .i64 0, .int .i64 0, .int .i64 0, .int .i64 0, .int .i64 0] [(0, 1, .tmp 14)])), .mk (some 16) none (.call 17 [.tmp 15]), .mk (some 17) none (.call 49 [.tmp 16, .const (.string (ByteArray.mk (Array.mk [UInt8.ofNat 32])))]), .mk (some 13) none (.k (.mov (.tmp 17))), .mk (some 18) none (.k (.ext (.tmp 13) 0)), .mk (some 19) none (.k (.ext (.tmp 13) 1)), .mk (some 20) none (.k (.ext (.tmp 13) 2)), .mk (some 4) none (.k (.mov (.tmp 18))), .mk (some 5) none (.k (.mov (.tmp 19))), .mk (some 6) none (.k (.mov (.tmp 20)))]) (.ref 2))) (.ref 3)
def T52n5 : XC := .seq (.seq (.ops [.mk (some 9) none (.k (.mov (.tmp 3))), .mk (some 10) none (.k (.cmp .leq .i64 (.tmp 9) (.const (.int .i64 18))))]) (.cond (.tmp 10) .skip (.exit 0))) (.ref 4)
def T52n6 : XC := .seq (.ops [.mk (some 2) none (.k (.mov (.const (.bool false))))]) .ret
def T52n7 : XC := .seq (.seq (.ops [.mk (some 3) none (.k (.mov (.const (.int .i64 1))))]) (.blk 0 (.loop (.ref 5)))) (.ref 6)
def T52n8 : XC := .seq (.seq (.ops [.mk (some 7) none (.k (.mov (.tmp 0))), .mk (some 8) none (.k (.eqs .eql (.tmp 7) (.const (.string (ByteArray.mk (Array.mk [UInt8.ofNat 114, UInt8.ofNat 97, UInt8.ofNat 119]))))))]) (.cond (.tmp 8) (.ref 0) .skip)) (.ref 7)
def T52 : Nat → XC
 | 0 => T52n0
 | 1 => T52n1
 | 2 => T52n2
 | 3 => T52n3
 | 4 => T52n4
 | 5 => T52n5
 | 6 => T52n6
 | 7 => T52n7
 | 8 => T52n8
 | _ => .skip
theorem t52n0 : T52 0 = T52n0 := rfl
theorem t52n1 : T52 1 = T52n1 := rfl
theorem t52n2 : T52 2 = T52n2 := rfl
theorem t52n3 : T52 3 = T52n3 := rfl
theorem t52n4 : T52 4 = T52n4 := rfl
theorem t52n5 : T52 5 = T52n5 := rfl
theorem t52n6 : T52 6 = T52n6 := rfl
theorem t52n7 : T52 7 = T52n7 := rfl
theorem t52n8 : T52 8 = T52n8 := rfl
def X52 : XC := .seq (.ops [.mk (some 2) none (.k (.mov (.const (.bool false))))]) (.ref 8)
abbrev K52 : List Nat := [0, 2, 3, 4, 8, 10, 23]
theorem n52 : Tryd.f52.ntmps = 24 := by kernel_rfl
theorem r52 : resT Tryd.f52.results.toList = some [2] := by kernel_rfl
theorem x52 : cmpF Tryd.prog Tryd.f52 = some (expand T52 10 X52) := by kernel_rfl
def T25n0 : XC := .seq (.ops [.mk (some 3) none (.k (.mov (.tmp 0))), .mk (some 4) none (.k (.cmp .eql .i64 (.tmp 3) (.const (.int .i64 13)))), .mk (some 5) none (.k (.mov (.tmp 4))), .mk (some 6) (some (5, false)) (.k (.mov (.tmp 0))), .mk (some 7) (some (5, false)) (.k (.cmp .eql .i64 (.tmp 6) (.const (.int .i64 14)))), .mk (some 8) none (.k (.pick (.tmp 5) (.const (.bool true)) (.tmp 7))), .mk (some 9) none (.k (.mov (.tmp 8))), .mk (some 10) (some (9, false)) (.k (.mov (.tmp 0))), .mk (some 11) (some (9, false)) (.k (.cmp .eql .i64 (.tmp 10) (.const (.int .i64 15)))), .mk (some 12) none (.k (.pick (.tmp 9) (.const (.bool true)) (.tmp 11))), .mk (some 13) none (.k (.mov (.tmp 12))), .mk (some 14) (some (13, false)) (.k (.mov (.tmp 0))), .mk (some 15) (some (13, false)) (.k (.cmp .eql .i64 (.tmp 14) (.const (.int .i64 16)))), .mk (some 16) none (.k (.pick (.tmp 13) (.const (.bool true)) (.tmp 15))), .mk (some 2) none (.k (.mov (.tmp 16)))]) .ret
def T25 : Nat → XC
 | 0 => T25n0
 | _ => .skip
theorem t25n0 : T25 0 = T25n0 := rfl
def X25 : XC := .seq (.ops [.mk (some 2) none (.k (.mov (.const (.bool false))))]) (.ref 0)
abbrev K25 : List Nat := [0, 2]
theorem n25 : Tryd.f25.ntmps = 17 := by kernel_rfl
theorem r25 : resT Tryd.f25.results.toList = some [2] := by kernel_rfl
theorem x25 : cmpF Tryd.prog Tryd.f25 = some (expand T25 2 X25) := by kernel_rfl
end Go.Proofs.YtaiajnehnjnadaaDoor
