/- Printed by program: the small code of functions, and that it is theirs. -/
import Derived.Test.YtlbiogokpadaoaaGreatDoorSxStill
import Derived.Test.YtlbiogokpadaoaaGreatDoorProg
import Derived.KernelRfl
set_option linter.unusedSimpArgs false
set_option linter.unusedVariables false
set_option linter.unnecessarySimpa false
namespace Go.Proofs.YtlbiogokpadaoaaGreatDoor
open Go Go.Sx
set_option maxRecDepth 100000
def T153n0 : XC := .seq (.ops [.mk (some 26) none (.k (.load [.int .i64, .int .i64, .int .i64, .int .i64, .int .i64] true (.tmp 6))), .mk none none (.k (.store 5 (.tmp 2) (.tmp 26))), .mk (some 3) none (.k (.mov (.const (.int .i64 0))))]) .ret
def T153n1 : XC := .seq (.ops [.mk (some 25) none (.k (.mov (.tmp 7)))]) (.cond (.tmp 25) (.ref 0) .skip)
def T153n2 : XC := .seq (.ops [.mk (some 27) none (.k (.build [.int .i64 0, .int .i64 0, .int .i64 0, .int .i64 0, .int .i64 0] [])), .mk none none (.k (.store 5 (.tmp 2) (.tmp 27))), .mk (some 3) none (.k (.mov (.const (.int .i64 2))))]) .ret
def T153n3 : XC := .seq (.seq (.ops [.mk (some 20) none (.k (.mov (.tmp 5))), .mk (some 21) none (.k (.build [.int .i64 0, .int .i64 0, .int .i64 0, .int .i64 0, .int .i64 0] [])), .mk (some 22) none (.callv (.tmp 20) [.tmp 21, .const (.string (ByteArray.mk (Array.mk [UInt8.ofNat 79, UInt8.ofNat 65, UInt8.ofNat 66, UInt8.ofNat 67, UInt8.ofNat 73])))]), .mk (some 19) none (.k (.mov (.tmp 22))), .mk (some 23) none (.k (.ext (.tmp 19) 0)), .mk (some 24) none (.k (.ext (.tmp 19) 1)), .mk (some 6) none (.k (.alloc 41 [.int .i64 0, .int .i64 0, .int .i64 0, .int .i64 0, .int .i64 0])), .mk none none (.k (.store 5 (.tmp 6) (.tmp 23))), .mk (some 7) none (.k (.mov (.tmp 24)))]) (.ref 1)) (.ref 2)
def T153n4 : XC := .seq (.ops [.mk (some 53) none (.k (.load [.int .i64, .int .i64, .int .i64, .int .i64, .int .i64] true (.tmp 10))), .mk none none (.k (.store 5 (.tmp 2) (.tmp 53))), .mk (some 3) none (.k (.mov (.const (.int .i64 0))))]) .ret
def T153n5 : XC := .seq (.ops [.mk (some 52) none (.k (.mov (.tmp 11)))]) (.cond (.tmp 52) (.ref 4) .skip)
def T153n6 : XC := .seq (.ops [.mk (some 44) none (.k (.mov (.tmp 5))), .mk (some 45) none (.k (.mov (.tmp 8))), .mk (some 46) none (.k (.build [.int .i64 0, .int .i64 0, .int .i64 0, .int .i64 0, .int .i64 0] [(0, 1, .tmp 45)])), .mk (some 47) none (.k (.fld 1 (.tmp 9))), .mk (some 48) none (.k (.load [.str] false (.tmp 47))), .mk (some 49) none (.callv (.tmp 44) [.tmp 46, .tmp 48]), .mk (some 43) none (.k (.mov (.tmp 49))), .mk (some 50) none (.k (.ext (.tmp 43) 0)), .mk (some 51) none (.k (.ext (.tmp 43) 1)), .mk (some 10) none (.k (.alloc 41 [.int .i64 0, .int .i64 0, .int .i64 0, .int .i64 0, .int .i64 0])), .mk none none (.k (.store 5 (.tmp 10) (.tmp 50))), .mk (some 11) none (.k (.mov (.tmp 51)))]) (.ref 5)
def T153n7 : XC := .seq (.seq (.ops [.mk (some 33) none (.k (.mov (.tmp 8))), .mk (some 34) none (.k (.cmp .lss .i64 (.tmp 33) (.const (.int .i64 1)))), .mk (some 35) none (.k (.mov (.tmp 34))), .mk (some 36) (some (35, false)) (.k (.fld 0 (.tmp 9))), .mk (some 37) (some (35, false)) (.k (.load [.str] false (.tmp 36))), .mk (some 38) (some (35, false)) (.k (.load [.slc] false (.tmp 4))), .mk (some 39) (some (35, false)) (.k (.idx 1 (.tmp 38) (.const (.int .i64 0)))), .mk (some 40) (some (35, false)) (.k (.load [.str] false (.tmp 39))), .mk (some 41) (some (35, false)) (.k (.eqs .neq (.tmp 37) (.tmp 40))), .mk (some 42) none (.k (.pick (.tmp 35) (.const (.bool true)) (.tmp 41)))]) (.cond (.tmp 42) (.exit 1) .skip)) (.ref 6)
def T153n8 : XC := .seq (.blk 1 (.seq (.ops [.mk (some 31) none (.k (.mov (.tmp 29))), .mk (some 32) none (.k (.ixA 19 2 true (.tmp 28) (.tmp 29))), .mk (some 9) none (.k (.alloc 107 [.string (ByteArray.mk (Array.mk [])), .string (ByteArray.mk (Array.mk []))])), .mk (some 8) none (.k (.mov (.tmp 31))), .mk none none (.k (.store 2 (.tmp 9) (.tmp 32)))]) (.ref 7))) (.ops [.mk (some 54) none (.k (.arith .add .i64 (.tmp 29) (.const (.int .i64 1)))), .mk (some 29) none (.k (.mov (.tmp 54)))])
def T153n9 : XC := .seq (.cond (.tmp 30) .skip (.exit 0)) (.ref 8)
def T153n10 : XC := .seq (.ops [.mk (some 30) none (.k (.cmp .lss .i64 (.tmp 29) (.const (.int .i64 19))))]) (.ref 9)
def T153n11 : XC := .seq (.ops [.mk (some 55) none (.k (.build [.int .i64 0, .int .i64 0, .int .i64 0, .int .i64 0, .int .i64 0] [])), .mk none none (.k (.store 5 (.tmp 2) (.tmp 55))), .mk (some 3) none (.k (.mov (.const (.int .i64 2))))]) .ret
def T153n12 : XC := .seq (.seq (.ops [.mk (some 28) none (.k (.load [.str, .str, .str, .str, .str, .str, .str, .str, .str, .str, .str, .str, .str, .str, .str, .str, .str, .str, .str, .str, .str, .str, .str, .str, .str, .str, .str, .str, .str, .str, .str, .str, .str, .str, .str, .str, .str, .str] true (.global 0))), .mk (some 29) none (.k (.mov (.const (.int .i64 0))))]) (.blk 0 (.loop (.ref 10)))) (.ref 11)
def T153n13 : XC := .seq (.seq (.ops [.mk (some 15) none (.k (.load [.slc] false (.tmp 4))), .mk (some 16) none (.k (.idx 1 (.tmp 15) (.const (.int .i64 0)))), .mk (some 17) none (.k (.load [.str] false (.tmp 16))), .mk (some 18) none (.k (.eqs .eql (.tmp 17) (.const (.string (ByteArray.mk (Array.mk [UInt8.ofNat 114, UInt8.ofNat 97, UInt8.ofNat 119]))))))]) (.cond (.tmp 18) (.ref 3) .skip)) (.seq (.lab) (.ref 12))
def T153n14 : XC := .seq (.ops [.mk (some 14) none (.k (.mkfn (.func 174) [] [.tmp 4, .tmp 1])), .mk (some 5) none (.k (.mov (.tmp 14)))]) (.ref 13)
def T153n15 : XC := .scp (.seq (.ops [.mk (some 12) none (.k (.load [.str] false (.tmp 1))), .mk (some 13) none (.call 148 [.tmp 12, .const (.string (ByteArray.mk (Array.mk [UInt8.ofNat 32])))]), .mk (some 4) none (.k (.alloc 104 [.slice none 0 0])), .mk none none (.k (.store 1 (.tmp 4) (.tmp 13)))]) (.ref 14))
def T153 : Nat → XC
 | 0 => T153n0
 | 1 => T153n1
 | 2 => T153n2
 | 3 => T153n3
 | 4 => T153n4
 | 5 => T153n5
 | 6 => T153n6
 | 7 => T153n7
 | 8 => T153n8
 | 9 => T153n9
 | 10 => T153n10
 | 11 => T153n11
 | 12 => T153n12
 | 13 => T153n13
 | 14 => T153n14
 | 15 => T153n15
 | _ => .skip
theorem t153n0 : T153 0 = T153n0 := rfl
theorem t153n1 : T153 1 = T153n1 := rfl
theorem t153n2 : T153 2 = T153n2 := rfl
theorem t153n3 : T153 3 = T153n3 := rfl
theorem t153n4 : T153 4 = T153n4 := rfl
theorem t153n5 : T153 5 = T153n5 := rfl
theorem t153n6 : T153 6 = T153n6 := rfl
theorem t153n7 : T153 7 = T153n7 := rfl
theorem t153n8 : T153 8 = T153n8 := rfl
theorem t153n9 : T153 9 = T153n9 := rfl
theorem t153n10 : T153 10 = T153n10 := rfl
theorem t153n11 : T153 11 = T153n11 := rfl
theorem t153n12 : T153 12 = T153n12 := rfl
theorem t153n13 : T153 13 = T153n13 := rfl
theorem t153n14 : T153 14 = T153n14 := rfl
theorem t153n15 : T153 15 = T153n15 := rfl
def X153 : XC := .seq (.ops [.mk (some 1) none (.k (.box 9 1 (.tmp 0))), .mk (some 2) none (.k (.alloc 41 [.int .i64 0, .int .i64 0, .int .i64 0, .int .i64 0, .int .i64 0])), .mk (some 3) none (.k (.mov (.const (.int .i64 0))))]) (.ref 15)
abbrev K153 : List Nat := [0, 1, 2, 3, 4, 5, 6, 7, 8, 9, 10, 11, 18, 25, 28, 29, 30, 42, 52]
theorem n153 : Tryz.f153.ntmps = 56 := by kernel_rfl
theorem r153 : rvOf Tryz.prog Tryz.f153.results.toList = some [RV.cell 2 5 true, RV.tmp 3] := by kernel_rfl
theorem x153 : cmpF Tryz.prog Tryz.f153 = some (expand T153 17 X153) := by kernel_rfl
def T173n0 : XC := .ops [.mk (some 9) none (.k (.fld 0 (.tmp 1))), .mk (some 10) none (.k (.load [.int .i64] false (.tmp 9))), .mk (some 11) none (.k (.idxA 19 2 (.global 0) (.tmp 10))), .mk (some 12) none (.k (.fld 0 (.tmp 11))), .mk (some 13) none (.k (.load [.str] false (.tmp 12))), .mk (some 14) none (.k (.fld 0 (.tmp 1))), .mk (some 15) none (.k (.load [.int .i64] false (.tmp 14))), .mk (some 16) none (.k (.idxA 19 2 (.global 0) (.tmp 15))), .mk (some 17) none (.k (.fld 1 (.tmp 16))), .mk (some 18) none (.k (.load [.str] false (.tmp 17))), .mk (some 3) none (.k (.mov (.tmp 13))), .mk (some 4) none (.k (.mov (.tmp 18)))]
def T173n1 : XC := .ops [.mk (some 26) none (.k (.mov (.tmp 3))), .mk (some 27) none (.k (.mov (.tmp 6))), .mk (some 28) none (.call 176 [.tmp 1, .tmp 27]), .mk (some 29) none (.k (.nilc (.tmp 28))), .mk (some 30) none (.k (.load [.int .i64] false (.tmp 29))), .mk (some 31) none (.call 101 [.tmp 30]), .mk (some 32) none (.k (.cat (.const (.string (ByteArray.mk (Array.mk [UInt8.ofNat 32])))) (.tmp 31))), .mk (some 33) none (.k (.cat (.tmp 26) (.tmp 32))), .mk (some 3) none (.k (.mov (.tmp 33)))]
def T173n2 : XC := .seq (.blk 1 (.seq (.ops [.mk (some 24) none (.k (.idx 1 (.tmp 20) (.tmp 22))), .mk (some 25) none (.k (.load [.int .u8] false (.tmp 24))), .mk (some 6) none (.k (.mov (.tmp 25)))]) (.ref 1))) (.ops [.mk (some 34) none (.k (.arith .add .i64 (.tmp 22) (.const (.int .i64 1)))), .mk (some 22) none (.k (.mov (.tmp 34)))])
def T173n3 : XC := .seq (.cond (.tmp 23) .skip (.exit 0)) (.ref 2)
def T173n4 : XC := .seq (.ops [.mk (some 23) none (.k (.cmp .lss .i64 (.tmp 22) (.tmp 21)))]) (.ref 3)
def T173n5 : XC := .seq (.ops [.mk (some 35) none (.k (.mov (.tmp 3))), .mk (some 2) none (.k (.mov (.tmp 35)))]) .ret
def T173n6 : XC := .seq (.seq (.ops [.mk (some 19) none (.k (.mov (.tmp 4))), .mk (some 20) none (.k (.s2b 5 (.tmp 19))), .mk (some 21) none (.k (.lenS (.tmp 20))), .mk (some 22) none (.k (.mov (.const (.int .i64 0))))]) (.blk 0 (.loop (.ref 4)))) (.ref 5)
def T173n7 : XC := .seq (.seq (.ops [.mk (some 7) none (.k (.load [.int .i64, .int .i64, .int .i64, .int .i64, .int .i64] true (.tmp 1))), .mk (some 8) none (.call 192 [.tmp 7])]) (.cond (.tmp 8) (.ref 0) .skip)) (.ref 6)
def T173n8 : XC := .seq (.ops [.mk (some 3) none (.k (.mov (.const (.string (ByteArray.mk (Array.mk [UInt8.ofNat 114, UInt8.ofNat 97, UInt8.ofNat 119])))))), .mk (some 4) none (.k (.mov (.const (.string (ByteArray.mk (Array.mk [UInt8.ofNat 79, UInt8.ofNat 65, UInt8.ofNat 66, UInt8.ofNat 67, UInt8.ofNat 73]))))))]) (.ref 7)
def T173 : Nat → XC
 | 0 => T173n0
 | 1 => T173n1
 | 2 => T173n2
 | 3 => T173n3
 | 4 => T173n4
 | 5 => T173n5
 | 6 => T173n6
 | 7 => T173n7
 | 8 => T173n8
 | _ => .skip
theorem t173n0 : T173 0 = T173n0 := rfl
theorem t173n1 : T173 1 = T173n1 := rfl
theorem t173n2 : T173 2 = T173n2 := rfl
theorem t173n3 : T173 3 = T173n3 := rfl
theorem t173n4 : T173 4 = T173n4 := rfl
theorem t173n5 : T173 5 = T173n5 := rfl
theorem t173n6 : T173 6 = T173n6 := rfl
theorem t173n7 : T173 7 = T173n7 := rfl
theorem t173n8 : T173 8 = T173n8 := rfl
def X173 : XC := .seq (.ops [.mk (some 1) none (.k (.box 41 5 (.tmp 0))), .mk (some 2) none (.k (.mov (.const (.string (ByteArray.mk (Array.mk []))))))]) (.ref 8)
abbrev K173 : List Nat := [0, 1, 2, 3, 4, 6, 8, 20, 21, 22, 23]
theorem n173 : Tryz.f173.ntmps = 36 := by kernel_rfl
theorem r173 : resT Tryz.f173.results.toList = some [2] := by kernel_rfl
theorem x173 : cmpF Tryz.prog Tryz.f173 = some (expand T173 10 X173) := by kernel_rfl
def T174n0 : XC := .seq (.ops [.mk (some 18) none (.k (.load [.int .i64, .int .i64, .int .i64, .int .i64, .int .i64] true (.tmp 4))), .mk none none (.k (.store 5 (.tmp 6) (.tmp 18))), .mk (some 7) none (.k (.mov (.const (.bool false))))]) .ret
def T174n1 : XC := .seq (.ops [.mk (some 34) none (.k (.load [.int .i64, .int .i64, .int .i64, .int .i64, .int .i64] true (.tmp 4))), .mk none none (.k (.store 5 (.tmp 6) (.tmp 34))), .mk (some 7) none (.k (.mov (.const (.bool false))))]) .ret
def T174n2 : XC := .ops [.mk (some 35) none (.k (.mov (.tmp 1))), .mk (some 36) none (.k (.mov (.tmp 8))), .mk (some 37) none (.k (.ixT (.tmp 35) (.tmp 36))), .mk (some 38) none (.call 176 [.tmp 4, .tmp 37]), .mk (some 39) none (.k (.mov (.tmp 10))), .mk (some 40) none (.k (.nilc (.tmp 38))), .mk none none (.k (.store 1 (.tmp 40) (.tmp 39)))]
def T174n3 : XC := .seq (.seq (.ops [.mk (some 32) none (.k (.mov (.tmp 11))), .mk (some 33) none (.k (.eqif true 230 (.tmp 32) (.const .nilIface)))]) (.cond (.tmp 33) (.ref 1) .skip)) (.ref 2)
def T174n4 : XC := .seq (.ops [.mk (some 28) none (.k (.mov (.tmp 9))), .mk (some 29) none (.call 175 [.tmp 28]), .mk (some 27) none (.k (.mov (.tmp 29))), .mk (some 30) none (.k (.ext (.tmp 27) 0)), .mk (some 31) none (.k (.ext (.tmp 27) 1)), .mk (some 10) none (.k (.mov (.tmp 30))), .mk (some 11) none (.k (.mov (.tmp 31)))]) (.ref 3)
def T174n5 : XC := .seq (.blk 1 (.seq (.ops [.mk (some 24) none (.k (.mov (.tmp 22))), .mk (some 25) none (.k (.idx 1 (.tmp 20) (.tmp 22))), .mk (some 26) none (.k (.load [.str] false (.tmp 25))), .mk (some 8) none (.k (.mov (.tmp 24))), .mk (some 9) none (.k (.mov (.tmp 26)))]) (.ref 4))) (.ops [.mk (some 41) none (.k (.arith .add .i64 (.tmp 22) (.const (.int .i64 1)))), .mk (some 22) none (.k (.mov (.tmp 41)))])
def T174n6 : XC := .seq (.cond (.tmp 23) .skip (.exit 0)) (.ref 5)
def T174n7 : XC := .seq (.ops [.mk (some 23) none (.k (.cmp .lss .i64 (.tmp 22) (.tmp 21)))]) (.ref 6)
def T174n8 : XC := .seq (.ops [.mk (some 42) none (.k (.load [.int .i64, .int .i64, .int .i64, .int .i64, .int .i64] true (.tmp 4))), .mk (some 43) none (.k (.load [.int .i64, .int .i64, .int .i64, .int .i64, .int .i64] true (.tmp 4))), .mk (some 45) none (.k (.load [.str] false (.tmp 3))), .mk (some 44) none (.call 173 [.tmp 43]), .mk none none (.still 45 (.load [.str] false (.tmp 3))), .mk none none (.still 42 (.load [.int .i64, .int .i64, .int .i64, .int .i64, .int .i64] true (.tmp 4))), .mk (some 46) none (.k (.eqs .eql (.tmp 44) (.tmp 45))), .mk none none (.k (.store 5 (.tmp 6) (.tmp 42))), .mk none none (.still 45 (.load [.str] false (.tmp 3))), .mk (some 7) none (.k (.mov (.tmp 46)))]) .ret
def T174n9 : XC := .seq (.seq (.ops [.mk (some 19) none (.k (.load [.slc] false (.tmp 2))), .mk (some 20) none (.k (.sub 1 (.tmp 19) (some (.const (.int .i64 1))) none)), .mk (some 21) none (.k (.lenS (.tmp 20))), .mk (some 22) none (.k (.mov (.const (.int .i64 0))))]) (.blk 0 (.loop (.ref 7)))) (.ref 8)
def T174n10 : XC := .seq (.seq (.ops [.mk (some 12) none (.k (.load [.slc] false (.tmp 2))), .mk (some 13) none (.k (.lenS (.tmp 12))), .mk (some 14) none (.k (.mov (.tmp 1))), .mk (some 15) none (.k (.lenT (.tmp 14))), .mk (some 16) none (.k (.arith .add .i64 (.tmp 15) (.const (.int .i64 1)))), .mk (some 17) none (.k (.cmp .neq .i64 (.tmp 13) (.tmp 16)))]) (.cond (.tmp 17) (.ref 0) .skip)) (.ref 9)
def T174 : Nat → XC
 | 0 => T174n0
 | 1 => T174n1
 | 2 => T174n2
 | 3 => T174n3
 | 4 => T174n4
 | 5 => T174n5
 | 6 => T174n6
 | 7 => T174n7
 | 8 => T174n8
 | 9 => T174n9
 | 10 => T174n10
 | _ => .skip
theorem t174n0 : T174 0 = T174n0 := rfl
theorem t174n1 : T174 1 = T174n1 := rfl
theorem t174n2 : T174 2 = T174n2 := rfl
theorem t174n3 : T174 3 = T174n3 := rfl
theorem t174n4 : T174 4 = T174n4 := rfl
theorem t174n5 : T174 5 = T174n5 := rfl
theorem t174n6 : T174 6 = T174n6 := rfl
theorem t174n7 : T174 7 = T174n7 := rfl
theorem t174n8 : T174 8 = T174n8 := rfl
theorem t174n9 : T174 9 = T174n9 := rfl
theorem t174n10 : T174 10 = T174n10 := rfl
def X174 : XC := .seq (.ops [.mk (some 4) none (.k (.box 41 5 (.tmp 0))), .mk (some 6) none (.k (.alloc 41 [.int .i64 0, .int .i64 0, .int .i64 0, .int .i64 0, .int .i64 0])), .mk (some 7) none (.k (.mov (.const (.bool false))))]) (.ref 10)
abbrev K174 : List Nat := [0, 1, 2, 3, 4, 6, 7, 8, 9, 10, 11, 17, 20, 21, 22, 23, 33]
theorem n174 : Tryz.f174.ntmps = 47 := by kernel_rfl
theorem r174 : rvOf Tryz.prog Tryz.f174.results.toList = some [RV.cell 6 5 true, RV.tmp 7] := by kernel_rfl
theorem x174 : cmpF Tryz.prog Tryz.f174 = some (expand T174 12 X174) := by kernel_rfl
def T176n0 : XC := .seq (.ops [.mk (some 8) none (.k (.mov (.tmp 0))), .mk (some 9) none (.k (.nilc (.tmp 8))), .mk (some 10) none (.k (.fld 1 (.tmp 9))), .mk (some 4) none (.k (.mov (.tmp 10)))]) .ret
def T176n1 : XC := .seq (.ops [.mk (some 13) none (.k (.mov (.tmp 0))), .mk (some 14) none (.k (.nilc (.tmp 13))), .mk (some 15) none (.k (.fld 2 (.tmp 14))), .mk (some 4) none (.k (.mov (.tmp 15)))]) .ret
def T176n2 : XC := .seq (.ops [.mk (some 18) none (.k (.mov (.tmp 0))), .mk (some 19) none (.k (.nilc (.tmp 18))), .mk (some 20) none (.k (.fld 3 (.tmp 19))), .mk (some 4) none (.k (.mov (.tmp 20)))]) .ret
def T176n3 : XC := .seq (.ops [.mk (some 23) none (.k (.mov (.tmp 0))), .mk (some 24) none (.k (.nilc (.tmp 23))), .mk (some 25) none (.k (.fld 4 (.tmp 24))), .mk (some 4) none (.k (.mov (.tmp 25)))]) .ret
def T176n4 : XC := .seq (.ops [.mk (some 22) none (.k (.cmp .eql .u8 (.tmp 5) (.const (.int .u8 73)))), .mk (some 21) none (.k (.mov (.tmp 22)))]) (.cond (.tmp 21) (.ref 3) .skip)
def T176n5 : XC := .seq (.ops [.mk (some 17) none (.k (.cmp .eql .u8 (.tmp 5) (.const (.int .u8 67)))), .mk (some 16) none (.k (.mov (.tmp 17)))]) (.cond (.tmp 16) (.ref 2) (.ref 4))
def T176n6 : XC := .seq (.ops [.mk (some 12) none (.k (.cmp .eql .u8 (.tmp 5) (.const (.int .u8 66)))), .mk (some 11) none (.k (.mov (.tmp 12)))]) (.cond (.tmp 11) (.ref 1) (.ref 5))
def T176n7 : XC := .blk 0 (.seq (.ops [.mk (some 7) none (.k (.cmp .eql .u8 (.tmp 5) (.const (.int .u8 65)))), .mk (some 6) none (.k (.mov (.tmp 7)))]) (.cond (.tmp 6) (.ref 0) (.ref 6)))
def T176n8 : XC := .seq (.ops [.mk (some 26) none (.k (.mov (.tmp 0))), .mk (some 27) none (.k (.nilc (.tmp 26))), .mk (some 28) none (.k (.fld 0 (.tmp 27))), .mk (some 4) none (.k (.mov (.tmp 28)))]) .ret
def T176n9 : XC := .seq (.seq (.ops [.mk (some 5) none (.k (.mov (.tmp 1)))]) (.ref 7)) (.ref 8)
def T176 : Nat → XC
 | 0 => T176n0
 | 1 => T176n1
 | 2 => T176n2
 | 3 => T176n3
 | 4 => T176n4
 | 5 => T176n5
 | 6 => T176n6
 | 7 => T176n7
 | 8 => T176n8
 | 9 => T176n9
 | _ => .skip
theorem t176n0 : T176 0 = T176n0 := rfl
theorem t176n1 : T176 1 = T176n1 := rfl
theorem t176n2 : T176 2 = T176n2 := rfl
theorem t176n3 : T176 3 = T176n3 := rfl
theorem t176n4 : T176 4 = T176n4 := rfl
theorem t176n5 : T176 5 = T176n5 := rfl
theorem t176n6 : T176 6 = T176n6 := rfl
theorem t176n7 : T176 7 = T176n7 := rfl
theorem t176n8 : T176 8 = T176n8 := rfl
theorem t176n9 : T176 9 = T176n9 := rfl
def X176 : XC := .seq (.ops [.mk (some 4) none (.k (.mov (.const (.pointer none))))]) (.ref 9)
abbrev K176 : List Nat := [0, 1, 4, 5, 6, 11, 16, 21]
theorem n176 : Tryz.f176.ntmps = 29 := by kernel_rfl
theorem r176 : resT Tryz.f176.results.toList = some [4] := by kernel_rfl
theorem x176 : cmpF Tryz.prog Tryz.f176 = some (expand T176 11 X176) := by kernel_rfl
def T192n0 : XC := .seq (.ops [.mk (some 2) none (.k (.mov (.const (.bool false))))]) .ret
def T192n1 : XC := .seq (.ops [.mk (some 2) none (.k (.mov (.const (.bool false))))]) .ret
def T192n2 : XC := .seq (.ops [.mk (some 15) none (.k (.fld 0 (.tmp 1))), .mk (some 16) none (.k (.load [.int .i64] false (.tmp 15))), .mk (some 17) none (.k (.idxA 19 2 (.global 0) (.tmp 16))), .mk (some 18) none (.k (.fld 1 (.tmp 17))), .mk (some 19) none (.k (.load [.str] false (.tmp 18))), .mk (some 20) none (.k (.mov (.tmp 4))), .mk (some 21) none (.call 38 [.tmp 19, .tmp 20]), .mk (some 22) none (.k (.cmp .lss .i64 (.tmp 21) (.const (.int .i64 0)))), .mk (some 23) none (.k (.mov (.tmp 22))), .mk (some 24) (some (23, true)) (.k (.mov (.tmp 4))), .mk (some 25) (some (23, true)) (.call 176 [.tmp 1, .tmp 24]), .mk (some 26) (some (23, true)) (.k (.nilc (.tmp 25))), .mk (some 27) (some (23, true)) (.k (.load [.int .i64] false (.tmp 26))), .mk (some 28) (some (23, true)) (.k (.cmp .neq .i64 (.tmp 27) (.const (.int .i64 0)))), .mk (some 29) none (.k (.pick (.tmp 23) (.tmp 28) (.const (.bool false))))]) (.cond (.tmp 29) (.ref 1) .skip)
def T192n3 : XC := .seq (.blk 1 (.seq (.ops [.mk (some 13) none (.k (.idx 1 (.tmp 9) (.tmp 11))), .mk (some 14) none (.k (.load [.int .u8] false (.tmp 13))), .mk (some 4) none (.k (.mov (.tmp 14)))]) (.ref 2))) (.ops [.mk (some 30) none (.k (.arith .add .i64 (.tmp 11) (.const (.int .i64 1)))), .mk (some 11) none (.k (.mov (.tmp 30)))])
def T192n4 : XC := .seq (.cond (.tmp 12) .skip (.exit 0)) (.ref 3)
def T192n5 : XC := .seq (.ops [.mk (some 12) none (.k (.cmp .lss .i64 (.tmp 11) (.tmp 10)))]) (.ref 4)
def T192n6 : XC := .seq (.ops [.mk (some 2) none (.k (.mov (.const (.bool true))))]) .ret
def T192n7 : XC := .seq (.seq (.ops [.mk (some 8) none (.k (.buildS 5 4 1 [.int .u8 0] [(0, .const (.int .u8 65)), (1, .const (.int .u8 66)), (2, .const (.int .u8 67)), (3, .const (.int .u8 73))])), .mk (some 9) none (.k (.mrk (.tmp 8))), .mk (some 10) none (.k (.lenS (.tmp 9))), .mk (some 11) none (.k (.mov (.const (.int .i64 0))))]) (.blk 0 (.loop (.ref 5)))) (.ref 6)
def T192n8 : XC := .seq (.seq (.ops [.mk (some 5) none (.k (.load [.int .i64, .int .i64, .int .i64, .int .i64, .int .i64] true (.tmp 1))), .mk (some 6) none (.call 21 [.tmp 5]), .mk (some 7) none (.k (.not (.tmp 6)))]) (.cond (.tmp 7) (.ref 0) .skip)) (.ref 7)
def T192 : Nat → XC
 | 0 => T192n0
 | 1 => T192n1
 | 2 => T192n2
 | 3 => T192n3
 | 4 => T192n4
 | 5 => T192n5
 | 6 => T192n6
 | 7 => T192n7
 | 8 => T192n8
 | _ => .skip
theorem t192n0 : T192 0 = T192n0 := rfl
theorem t192n1 : T192 1 = T192n1 := rfl
theorem t192n2 : T192 2 = T192n2 := rfl
theorem t192n3 : T192 3 = T192n3 := rfl
theorem t192n4 : T192 4 = T192n4 := rfl
theorem t192n5 : T192 5 = T192n5 := rfl
theorem t192n6 : T192 6 = T192n6 := rfl
theorem t192n7 : T192 7 = T192n7 := rfl
theorem t192n8 : T192 8 = T192n8 := rfl
def X192 : XC := .seq (.ops [.mk (some 1) none (.k (.box 41 5 (.tmp 0))), .mk (some 2) none (.k (.mov (.const (.bool false))))]) (.ref 8)
abbrev K192 : List Nat := [0, 1, 2, 4, 7, 9, 10, 11, 12, 29]
theorem n192 : Tryz.f192.ntmps = 31 := by kernel_rfl
theorem r192 : resT Tryz.f192.results.toList = some [2] := by kernel_rfl
theorem x192 : cmpF Tryz.prog Tryz.f192 = some (expand T192 10 X192) := by kernel_rfl
end Go.Proofs.YtlbiogokpadaoaaGreatDoor
