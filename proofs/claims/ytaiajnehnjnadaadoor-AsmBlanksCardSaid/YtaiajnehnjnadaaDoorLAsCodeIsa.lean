/- Printed by program: the small code of functions, and that it is theirs. -/
import Derived.Test.YtaiajnehnjnadaaDoorSxStill
import Derived.Test.YtaiajnehnjnadaaDoorProg
import Derived.KernelRfl
set_option linter.unusedSimpArgs false
set_option linter.unusedVariables false
set_option linter.unnecessarySimpa false
namespace Go.Proofs.YtaiajnehnjnadaaDoor
open Go Go.Sx
set_option maxRecDepth 100000
def T53n0 : XC := .seq (.ops [.mk (some 26) none (.k (.load [.int .i64, .int .i64, .int .i64, .int .i64, .int .i64] true (.tmp 6))), .mk none none (.k (.store 5 (.tmp 2) (.tmp 26))), .mk (some 3) none (.k (.mov (.const (.int .i64 0))))]) .ret
def T53n1 : XC := .seq (.ops [.mk (some 25) none (.k (.mov (.tmp 7)))]) (.cond (.tmp 25) (.ref 0) .skip)
def T53n2 : XC := .seq (.ops [.mk (some 27) none (.k (.build [.int .i64 0, .int .i64 0, .int .i64 0, .int .i64 0, .int .i64 0] [])), .mk none none (.k (.store 5 (.tmp 2) (.tmp 27))), .mk (some 3) none (.k (.mov (.const (.int .i64 2))))]) .ret
def T53n3 : XC := .seq (.seq (.ops [.mk (some 20) none (.k (.mov (.tmp 5))), .mk (some 21) none (.k (.build [.int .i64 0, .int .i64 0, .int .i64 0, .int .i64 0, .int .i64 0] [])), .mk (some 22) none (.callv (.tmp 20) [.tmp 21, .const (.string (ByteArray.mk (Array.mk [UInt8.ofNat 79, UInt8.ofNat 65, UInt8.ofNat 66, UInt8.ofNat 67, UInt8.ofNat 73])))]), .mk (some 19) none (.k (.mov (.tmp 22))), .mk (some 23) none (.k (.ext (.tmp 19) 0)), .mk (some 24) none (.k (.ext (.tmp 19) 1)), .mk (some 6) none (.k (.alloc 43 [.int .i64 0, .int .i64 0, .int .i64 0, .int .i64 0, .int .i64 0])), .mk none none (.k (.store 5 (.tmp 6) (.tmp 23))), .mk (some 7) none (.k (.mov (.tmp 24)))]) (.ref 1)) (.ref 2)
def T53n4 : XC := .seq (.ops [.mk (some 53) none (.k (.load [.int .i64, .int .i64, .int .i64, .int .i64, .int .i64] true (.tmp 10))), .mk none none (.k (.store 5 (.tmp 2) (.tmp 53))), .mk (some 3) none (.k (.mov (.const (.int .i64 0))))]) .ret
def T53n5 : XC := .seq (.ops [.mk (some 52) none (.k (.mov (.tmp 11)))]) (.cond (.tmp 52) (.ref 4) .skip)
def T53n6 : XC := .seq (.ops [.mk (some 44) none (.k (.mov (.tmp 5))), .mk (some 45) none (.k (.mov (.tmp 8))), .mk (some 46) none (.k (.build [.int .i64 0, .int .i64 0, .int .i64 0, .int .i64 0, .int .i64 0] [(0, 1, .tmp 45)])), .mk (some 47) none (.k (.fld 1 (.tmp 9))), .mk (some 48) none (.k (.load [.str] false (.tmp 47))), .mk (some 49) none (.callv (.tmp 44) [.tmp 46, .tmp 48]), .mk (some 43) none (.k (.mov (.tmp 49))), .mk (some 50) none (.k (.ext (.tmp 43) 0)), .mk (some 51) none (.k (.ext (.tmp 43) 1)), .mk (some 10) none (.k (.alloc 43 [.int .i64 0, .int .i64 0, .int .i64 0, .int .i64 0, .int .i64 0])), .mk none none (.k (.store 5 (.tmp 10) (.tmp 50))), .mk (some 11) none (.k (.mov (.tmp 51)))]) (.ref 5)
def T53n7 : XC := .seq (.seq (.ops [.mk (some 33) none (.k (.mov (.tmp 8))), .mk (some 34) none (.k (.cmp .lss .i64 (.tmp 33) (.const (.int .i64 1)))), .mk (some 35) none (.k (.mov (.tmp 34))), .mk (some 36) (some (35, false)) (.k (.fld 0 (.tmp 9))), .mk (some 37) (some (35, false)) (.k (.load [.str] false (.tmp 36))), .mk (some 38) (some (35, false)) (.k (.load [.slc] false (.tmp 4))), .mk (some 39) (some (35, false)) (.k (.idx 1 (.tmp 38) (.const (.int .i64 0)))), .mk (some 40) (some (35, false)) (.k (.load [.str] false (.tmp 39))), .mk (some 41) (some (35, false)) (.k (.eqs .neq (.tmp 37) (.tmp 40))), .mk (some 42) none (.k (.pick (.tmp 35) (.const (.bool true)) (.tmp 41)))]) (.cond (.tmp 42) (.exit 1) .skip)) (.ref 6)
def T53n8 : XC := .seq (.blk 1 (.seq (.ops [.mk (some 31) none (.k (.mov (.tmp 29))), .mk (some 32) none (.k (.ixA 19 2 true (.tmp 28) (.tmp 29))), .mk (some 9) none (.k (.alloc 69 [.string (ByteArray.mk (Array.mk [])), .string (ByteArray.mk (Array.mk []))])), .mk (some 8) none (.k (.mov (.tmp 31))), .mk none none (.k (.store 2 (.tmp 9) (.tmp 32)))]) (.ref 7))) (.ops [.mk (some 54) none (.k (.arith .add .i64 (.tmp 29) (.const (.int .i64 1)))), .mk (some 29) none (.k (.mov (.tmp 54)))])
def T53n9 : XC := .seq (.cond (.tmp 30) .skip (.exit 0)) (.ref 8)
def T53n10 : XC := .seq (.ops [.mk (some 30) none (.k (.cmp .lss .i64 (.tmp 29) (.const (.int .i64 19))))]) (.ref 9)
def T53n11 : XC := .seq (.ops [.mk (some 55) none (.k (.build [.int .i64 0, .int .i64 0, .int .i64 0, .int .i64 0, .int .i64 0] [])), .mk none none (.k (.store 5 (.tmp 2) (.tmp 55))), .mk (some 3) none (.k (.mov (.const (.int .i64 2))))]) .ret
def T53n12 : XC := .seq (.seq (.ops [.mk (some 28) none (.k (.load [.str, .str, .str, .str, .str, .str, .str, .str, .str, .str, .str, .str, .str, .str, .str, .str, .str, .str, .str, .str, .str, .str, .str, .str, .str, .str, .str, .str, .str, .str, .str, .str, .str, .str, .str, .str, .str, .str] true (.global 0))), .mk (some 29) none (.k (.mov (.const (.int .i64 0))))]) (.blk 0 (.loop (.ref 10)))) (.ref 11)
def T53n13 : XC := .seq (.seq (.ops [.mk (some 15) none (.k (.load [.slc] false (.tmp 4))), .mk (some 16) none (.k (.idx 1 (.tmp 15) (.const (.int .i64 0)))), .mk (some 17) none (.k (.load [.str] false (.tmp 16))), .mk (some 18) none (.k (.eqs .eql (.tmp 17) (.const (.string (ByteArray.mk (Array.mk [UInt8.ofNat 114, UInt8.ofNat 97, UInt8.ofNat 119]))))))]) (.cond (.tmp 18) (.ref 3) .skip)) (.seq (.lab) (.ref 12))
def T53n14 : XC := .seq (.ops [.mk (some 14) none (.k (.mkfn (.func 69) [] [.tmp 4, .tmp 1])), .mk (some 5) none (.k (.mov (.tmp 14)))]) (.ref 13)
def T53n15 : XC := .scp (.seq (.ops [.mk (some 12) none (.k (.load [.str] false (.tmp 1))), .mk (some 13) none (.call 48 [.tmp 12, .const (.string (ByteArray.mk (Array.mk [UInt8.ofNat 32])))]), .mk (some 4) none (.k (.alloc 92 [.slice none 0 0])), .mk none none (.k (.store 1 (.tmp 4) (.tmp 13)))]) (.ref 14))
def T53 : Nat → XC
 | 0 => T53n0
 | 1 => T53n1
 | 2 => T53n2
 | 3 => T53n3
 | 4 => T53n4
 | 5 => T53n5
 | 6 => T53n6
 | 7 => T53n7
 | 8 => T53n8
 | 9 => T53n9
 | 10 => T53n10
 | 11 => T53n11
 | 12 => T53n12
 | 13 => T53n13
 | 14 => T53n14
 | 15 => T53n15
 | _ => .skip
theorem t53n0 : T53 0 = T53n0 := rfl
theorem t53n1 : T53 1 = T53n1 := rfl
theorem t53n2 : T53 2 = T53n2 := rfl
theorem t53n3 : T53 3 = T53n3 := rfl
theorem t53n4 : T53 4 = T53n4 := rfl
theorem t53n5 : T53 5 = T53n5 := rfl
theorem t53n6 : T53 6 = T53n6 := rfl
theorem t53n7 : T53 7 = T53n7 := rfl
theorem t53n8 : T53 8 = T53n8 := rfl
theorem t53n9 : T53 9 = T53n9 := rfl
theorem t53n10 : T53 10 = T53n10 := rfl
theorem t53n11 : T53 11 = T53n11 := rfl
theorem t53n12 : T53 12 = T53n12 := rfl
theorem t53n13 : T53 13 = T53n13 := rfl
theorem t53n14 : T53 14 = T53n14 := rfl
theorem t53n15 : T53 15 = T53n15 := rfl
def X53 : XC := .seq (.ops [.mk (some 1) none (.k (.box 9 1 (.tmp 0))), .mk (some 2) none (.k (.alloc 43 [.int .i64 0, .int .i64 0, .int .i64 0, .int .i64 0, .int .i64 0])), .mk (some 3) none (.k (.mov (.const (.int .i64 0))))]) (.ref 15)
abbrev K53 : List Nat := [0, 1, 2, 3, 4, 5, 6, 7, 8, 9, 10, 11, 18, 25, 28, 29, 30, 42, 52]
theorem n53 : Tryd.f53.ntmps = 56 := by kernel_rfl
theorem r53 : rvOf Tryd.prog Tryd.f53.results.toList = some [RV.cell 2 5 true, RV.tmp 3] := by kernel_rfl
theorem x53 : cmpF Tryd.prog Tryd.f53 = some (expand T53 17 X53) := by kernel_rfl
def T17n0 : XC := .ops [.mk (some 9) none (.k (.fld 0 (.tmp 1))), .mk (some 10) none (.k (.load [.int .i64] false (.tmp 9))), .mk (some 11) none (.k (.idxA 19 2 (.global 0) (.tmp 10))), .mk (some 12) none (.k (.fld 0 (.tmp 11))), .mk (some 13) none (.k (.load [.str] false (.tmp 12))), .mk (some 14) none (.k (.fld 0 (.tmp 1))), .mk (some 15) none (.k (.load [.int .i64] false (.tmp 14))), .mk (some 16) none (.k (.idxA 19 2 (.global 0) (.tmp 15))), .mk (some 17) none (.k (.fld 1 (.tmp 16))), .mk (some 18) none (.k (.load [.str] false (.tmp 17))), .mk (some 3) none (.k (.mov (.tmp 13))), .mk (some 4) none (.k (.mov (.tmp 18)))]
def T17n1 : XC := .ops [.mk (some 26) none (.k (.mov (.tmp 3))), .mk (some 27) none (.k (.mov (.tmp 6))), .mk (some 28) none (.call 31 [.tmp 1, .tmp 27]), .mk (some 29) none (.k (.nilc (.tmp 28))), .mk (some 30) none (.k (.load [.int .i64] false (.tmp 29))), .mk (some 31) none (.call 16 [.tmp 30]), .mk (some 32) none (.k (.cat (.const (.string (ByteArray.mk (Array.mk [UInt8.ofNat 32])))) (.tmp 31))), .mk (some 33) none (.k (.cat (.tmp 26) (.tmp 32))), .mk (some 3) none (.k (.mov (.tmp 33)))]
def T17n2 : XC := .seq (.blk 1 (.seq (.ops [.mk (some 24) none (.k (.idx 1 (.tmp 20) (.tmp 22))), .mk (some 25) none (.k (.load [.int .u8] false (.tmp 24))), .mk (some 6) none (.k (.mov (.tmp 25)))]) (.ref 1))) (.ops [.mk (some 34) none (.k (.arith .add .i64 (.tmp 22) (.const (.int .i64 1)))), .mk (some 22) none (.k (.mov (.tmp 34)))])
def T17n3 : XC := .seq (.cond (.tmp 23) .skip (.exit 0)) (.ref 2)
def T17n4 : XC := .seq (.ops [.mk (some 23) none (.k (.cmp .lss .i64 (.tmp 22) (.tmp 21)))]) (.ref 3)
def T17n5 : XC := .seq (.ops [.mk (some 35) none (.k (.mov (.tmp 3))), .mk (some 2) none (.k (.mov (.tmp 35)))]) .ret
def T17n6 : XC := .seq (.seq (.ops [.mk (some 19) none (.k (.mov (.tmp 4))), .mk (some 20) none (.k (.s2b 5 (.tmp 19))), .mk (some 21) none (.k (.lenS (.tmp 20))), .mk (some 22) none (.k (.mov (.const (.int .i64 0))))]) (.blk 0 (.loop (.ref 4)))) (.ref 5)
def T17n7 : XC := .seq (.seq (.ops [.mk (some 7) none (.k (.load [.int .i64, .int .i64, .int .i64, .int .i64, .int .i64] true (.tmp 1))), .mk (some 8) none (.call 30 [.tmp 7])]) (.cond (.tmp 8) (.ref 0) .skip)) (.ref 6)
def T17n8 : XC := .seq (.ops [.mk (some 3) none (.k (.mov (.const (.string (ByteArray.mk (Array.mk [UInt8.ofNat 114, UInt8.ofNat 97, UInt8.ofNat 119])))))), .mk (some 4) none (.k (.mov (.const (.string (ByteArray.mk (Array.mk [UInt8.ofNat 79, UInt8.ofNat 65, UInt8.ofNat 66, UInt8.ofNat 67, UInt8.ofNat 73]))))))]) (.ref 7)
def T17 : Nat → XC
 | 0 => T17n0
 | 1 => T17n1
 | 2 => T17n2
 | 3 => T17n3
 | 4 => T17n4
 | 5 => T17n5
 | 6 => T17n6
 | 7 => T17n7
 | 8 => T17n8
 | _ => .skip
theorem t17n0 : T17 0 = T17n0 := rfl
theorem t17n1 : T17 1 = T17n1 := rfl
theorem t17n2 : T17 2 = T17n2 := rfl
theorem t17n3 : T17 3 = T17n3 := rfl
theorem t17n4 : T17 4 = T17n4 := rfl
theorem t17n5 : T17 5 = T17n5 := rfl
theorem t17n6 : T17 6 = T17n6 := rfl
theorem t17n7 : T17 7 = T17n7 := rfl
theorem t17n8 : T17 8 = T17n8 := rfl
def X17 : XC := .seq (.ops [.mk (some 1) none (.k (.box 43 5 (.tmp 0))), .mk (some 2) none (.k (.mov (.const (.string (ByteArray.mk (Array.mk []))))))]) (.ref 8)
abbrev K17 : List Nat := [0, 1, 2, 3, 4, 6, 8, 20, 21, 22, 23]
theorem n17 : Tryd.f17.ntmps = 36 := by kernel_rfl
theorem r17 : resT Tryd.f17.results.toList = some [2] := by kernel_rfl
theorem x17 : cmpF Tryd.prog Tryd.f17 = some (expand T17 10 X17) := by kernel_rfl
def T69n0 : XC := .seq (.ops [.mk (some 18) none (.k (.load [.int .i64, .int .i64, .int .i64, .int .i64, .int .i64] true (.tmp 4))), .mk none none (.k (.store 5 (.tmp 6) (.tmp 18))), .mk (some 7) none (.k (.mov (.const (.bool false))))]) .ret
def T69n1 : XC := .seq (.ops [.mk (some 34) none (.k (.load [.int .i64, .int .i64, .int .i64, .int .i64, .int .i64] true (.tmp 4))), .mk none none (.k (.store 5 (.tmp 6) (.tmp 34))), .mk (some 7) none (.k (.mov (.const (.bool false))))]) .ret
def T69n2 : XC := .ops [.mk (some 35) none (.k (.mov (.tmp 1))), .mk (some 36) none (.k (.mov (.tmp 8))), .mk (some 37) none (.k (.ixT (.tmp 35) (.tmp 36))), .mk (some 38) none (.call 31 [.tmp 4, .tmp 37]), .mk (some 39) none (.k (.mov (.tmp 10))), .mk (some 40) none (.k (.nilc (.tmp 38))), .mk none none (.k (.store 1 (.tmp 40) (.tmp 39)))]
def T69n3 : XC := .seq (.seq (.ops [.mk (some 32) none (.k (.mov (.tmp 11))), .mk (some 33) none (.k (.eqif true 50 (.tmp 32) (.const .nilIface)))]) (.cond (.tmp 33) (.ref 1) .skip)) (.ref 2)
def T69n4 : XC := .seq (.ops [.mk (some 28) none (.k (.mov (.tmp 9))), .mk (some 29) none (.call 70 [.tmp 28]), .mk (some 27) none (.k (.mov (.tmp 29))), .mk (some 30) none (.k (.ext (.tmp 27) 0)), .mk (some 31) none (.k (.ext (.tmp 27) 1)), .mk (some 10) none (.k (.mov (.tmp 30))), .mk (some 11) none (.k (.mov (.tmp 31)))]) (.ref 3)
def T69n5 : XC := .seq (.blk 1 (.seq (.ops [.mk (some 24) none (.k (.mov (.tmp 22))), .mk (some 25) none (.k (.idx 1 (.tmp 20) (.tmp 22))), .mk (some 26) none (.k (.load [.str] false (.tmp 25))), .mk (some 8) none (.k (.mov (.tmp 24))), .mk (some 9) none (.k (.mov (.tmp 26)))]) (.ref 4))) (.ops [.mk (some 41) none (.k (.arith .add .i64 (.tmp 22) (.const (.int .i64 1)))), .mk (some 22) none (.k (.mov (.tmp 41)))])
def T69n6 : XC := .seq (.cond (.tmp 23) .skip (.exit 0)) (.ref 5)
def T69n7 : XC := .seq (.ops [.mk (some 23) none (.k (.cmp .lss .i64 (.tmp 22) (.tmp 21)))]) (.ref 6)
def T69n8 : XC := .seq (.ops [.mk (some 42) none (.k (.load [.int .i64, .int .i64, .int .i64, .int .i64, .int .i64] true (.tmp 4))), .mk (some 43) none (.k (.load [.int .i64, .int .i64, .int .i64, .int .i64, .int .i64] true (.tmp 4))), .mk (some 45) none (.k (.load [.str] false (.tmp 3))), .mk (some 44) none (.call 17 [.tmp 43]), .mk none none (.still 45 (.load [.str] false (.tmp 3))), .mk none none (.still 42 (.load [.int .i64, .int .i64, .int .i64, .int .i64, .int .i64] true (.tmp 4))), .mk (some 46) none (.k (.eqs .eql (.tmp 44) (.tmp 45))), .mk none none (.k (.store 5 (.tmp 6) (.tmp 42))), .mk none none (.still 45 (.load [.str] false (.tmp 3))), .mk (some 7) none (.k (.mov (.tmp 46)))]) .ret
def T69n9 : XC := .seq (.seq (.ops [.mk (some 19) none (.k (.load [.slc] false (.tmp 2))), .mk (some 20) none (.k (.sub 1 (.tmp 19) (some (.const (.int .i64 1))) none)), .mk (some 21) none (.k (.lenS (.tmp 20))), .mk (some 22) none (.k (.mov (.const (.int .i64 0))))]) (.blk 0 (.loop (.ref 7)))) (.ref 8)
def T69n10 : XC := .seq (.seq (.ops [.mk (some 12) none (.k (.load [.slc] false (.tmp 2))), .mk (some 13) none (.k (.lenS (.tmp 12))), .mk (some 14) none (.k (.mov (.tmp 1))), .mk (some 15) none (.k (.lenT (.tmp 14))), .mk (some 16) none (.k (.arith .add .i64 (.tmp 15) (.const (.int .i64 1)))), .mk (some 17) none (.k (.cmp .neq .i64 (.tmp 13) (.tmp 16)))]) (.cond (.tmp 17) (.ref 0) .skip)) (.ref 9)
def T69 : Nat → XC
 | 0 => T69n0
 | 1 => T69n1
 | 2 => T69n2
 | 3 => T69n3
 | 4 => T69n4
 | 5 => T69n5
 | 6 => T69n6
 | 7 => T69n7
 | 8 => T69n8
 | 9 => T69n9
 | 10 => T69n10
 | _ => .skip
theorem t69n0 : T69 0 = T69n0 := rfl
theorem t69n1 : T69 1 = T69n1 := rfl
theorem t69n2 : T69 2 = T69n2 := rfl
theorem t69n3 : T69 3 = T69n3 := rfl
theorem t69n4 : T69 4 = T69n4 := rfl
theorem t69n5 : T69 5 = T69n5 := rfl
theorem t69n6 : T69 6 = T69n6 := rfl
theorem t69n7 : T69 7 = T69n7 := rfl
theorem t69n8 : T69 8 = T69n8 := rfl
theorem t69n9 : T69 9 = T69n9 := rfl
theorem t69n10 : T69 10 = T69n10 := rfl
def X69 : XC := .seq (.ops [.mk (some 4) none (.k (.box 43 5 (.tmp 0))), .mk (some 6) none (.k (.alloc 43 [.int .i64 0, .int .i64 0, .int .i64 0, .int .i64 0, .int .i64 0])), .mk (some 7) none (.k (.mov (.const (.bool false))))]) (.ref 10)
abbrev K69 : List Nat := [0, 1, 2, 3, 4, 6, 7, 8, 9, 10, 11, 17, 20, 21, 22, 23, 33]
theorem n69 : Tryd.f69.ntmps = 47 := by kernel_rfl
theorem r69 : rvOf Tryd.prog Tryd.f69.results.toList = some [RV.cell 6 5 true, RV.tmp 7] := by kernel_rfl
theorem x69 : cmpF Tryd.prog Tryd.f69 = some (expand T69 12 X69) := by kernel_rfl
def T31n0 : XC := .seq (.ops [.mk (some 8) none (.k (.mov (.tmp 0))), .mk (some 9) none (.k (.nilc (.tmp 8))), .mk (some 10) none (.k (.fld 1 (.tmp 9))), .mk (some 4) none (.k (.mov (.tmp 10)))]) .ret
def T31n1 : XC := .seq (.ops [.mk (some 13) none (.k (.mov (.tmp 0))), .mk (some 14) none (.k (.nilc (.tmp 13))), .mk (some 15) none (.k (.fld 2 (.tmp 14))), .mk (some 4) none (.k (.mov (.tmp 15)))]) .ret
def T31n2 : XC := .seq (.ops [.mk (some 18) none (.k (.mov (.tmp 0))), .mk (some 19) none (.k (.nilc (.tmp 18))), .mk (some 20) none (.k (.fld 3 (.tmp 19))), .mk (some 4) none (.k (.mov (.tmp 20)))]) .ret
def T31n3 : XC := .seq (.ops [.mk (some 23) none (.k (.mov (.tmp 0))), .mk (some 24) none (.k (.nilc (.tmp 23))), .mk (some 25) none (.k (.fld 4 (.tmp 24))), .mk (some 4) none (.k (.mov (.tmp 25)))]) .ret
def T31n4 : XC := .seq (.ops [.mk (some 22) none (.k (.cmp .eql .u8 (.tmp 5) (.const (.int .u8 73)))), .mk (some 21) none (.k (.mov (.tmp 22)))]) (.cond (.tmp 21) (.ref 3) .skip)
def T31n5 : XC := .seq (.ops [.mk (some 17) none (.k (.cmp .eql .u8 (.tmp 5) (.const (.int .u8 67)))), .mk (some 16) none (.k (.mov (.tmp 17)))]) (.cond (.tmp 16) (.ref 2) (.ref 4))
def T31n6 : XC := .seq (.ops [.mk (some 12) none (.k (.cmp .eql .u8 (.tmp 5) (.const (.int .u8 66)))), .mk (some 11) none (.k (.mov (.tmp 12)))]) (.cond (.tmp 11) (.ref 1) (.ref 5))
def T31n7 : XC := .blk 0 (.seq (.ops [.mk (some 7) none (.k (.cmp .eql .u8 (.tmp 5) (.const (.int .u8 65)))), .mk (some 6) none (.k (.mov (.tmp 7)))]) (.cond (.tmp 6) (.ref 0) (.ref 6)))
def T31n8 : XC := .seq (.ops [.mk (some 26) none (.k (.mov (.tmp 0))), .mk (some 27) none (.k (.nilc (.tmp 26))), .mk (some 28) none (.k (.fld 0 (.tmp 27))), .mk (some 4) none (.k (.mov (.tmp 28)))]) .ret
def T31n9 : XC := .seq (.seq (.ops [.mk (some 5) none (.k (.mov (.tmp 1)))]) (.ref 7)) (.ref 8)
def T31 : Nat → XC
 | 0 => T31n0
 | 1 => T31n1
 | 2 => T31n2
 | 3 => T31n3
 | 4 => T31n4
 | 5 => T31n5
 | 6 => T31n6
 | 7 => T31n7
 | 8 => T31n8
 | 9 => T31n9
 | _ => .skip
theorem t31n0 : T31 0 = T31n0 := rfl
theorem t31n1 : T31 1 = T31n1 := rfl
theorem t31n2 : T31 2 = T31n2 := rfl
theorem t31n3 : T31 3 = T31n3 := rfl
theorem t31n4 : T31 4 = T31n4 := rfl
theorem t31n5 : T31 5 = T31n5 := rfl
theorem t31n6 : T31 6 = T31n6 := rfl
theorem t31n7 : T31 7 = T31n7 := rfl
theorem t31n8 : T31 8 = T31n8 := rfl
theorem t31n9 : T31 9 = T31n9 := rfl
def X31 : XC := .seq (.ops [.mk (some 4) none (.k (.mov (.const (.pointer none))))]) (.ref 9)
abbrev K31 : List Nat := [0, 1, 4, 5, 6, 11, 16, 21]
theorem n31 : Tryd.f31.ntmps = 29 := by kernel_rfl
theorem r31 : resT Tryd.f31.results.toList = some [4] := by kernel_rfl
theorem x31 : cmpF Tryd.prog Tryd.f31 = some (expand T31 11 X31) := by kernel_rfl
def T30n0 : XC := .seq (.ops [.mk (some 2) none (.k (.mov (.const (.bool false))))]) .ret
def T30n1 : XC := .seq (.ops [.mk (some 2) none (.k (.mov (.const (.bool false))))]) .ret
def T30n2 : XC := .seq (.ops [.mk (some 15) none (.k (.fld 0 (.tmp 1))), .mk (some 16) none (.k (.load [.int .i64] false (.tmp 15))), .mk (some 17) none (.k (.idxA 19 2 (.global 0) (.tmp 16))), .mk (some 18) none (.k (.fld 1 (.tmp 17))), .mk (some 19) none (.k (.load [.str] false (.tmp 18))), .mk (some 20) none (.k (.mov (.tmp 4))), .mk (some 21) none (.call 42 [.tmp 19, .tmp 20]), .mk (some 22) none (.k (.cmp .lss .i64 (.tmp 21) (.const (.int .i64 0)))), .mk (some 23) none (.k (.mov (.tmp 22))), .mk (some 24) (some (23, true)) (.k (.mov (.tmp 4))), .mk (some 25) (some (23, true)) (.call 31 [.tmp 1, .tmp 24]), .mk (some 26) (some (23, true)) (.k (.nilc (.tmp 25))), .mk (some 27) (some (23, true)) (.k (.load [.int .i64] false (.tmp 26))), .mk (some 28) (some (23, true)) (.k (.cmp .neq .i64 (.tmp 27) (.const (.int .i64 0)))), .mk (some 29) none (.k (.pick (.tmp 23) (.tmp 28) (.const (.bool false))))]) (.cond (.tmp 29) (.ref 1) .skip)
def T30n3 : XC := .seq (.blk 1 (.seq (.ops [.mk (some 13) none (.k (.idx 1 (.tmp 9) (.tmp 11))), .mk (some 14) none (.k (.load [.int .u8] false (.tmp 13))), .mk (some 4) none (.k (.mov (.tmp 14)))]) (.ref 2))) (.ops [.mk (some 30) none (.k (.arith .add .i64 (.tmp 11) (.const (.int .i64 1)))), .mk (some 11) none (.k (.mov (.tmp 30)))])
def T30n4 : XC := .seq (.cond (.tmp 12) .skip (.exit 0)) (.ref 3)
def T30n5 : XC := .seq (.ops [.mk (some 12) none (.k (.cmp .lss .i64 (.tmp 11) (.tmp 10)))]) (.ref 4)
def T30n6 : XC := .seq (.ops [.mk (some 2) none (.k (.mov (.const (.bool true))))]) .ret
def T30n7 : XC := .seq (.seq (.ops [.mk (some 8) none (.k (.buildS 5 4 1 [.int .u8 0] [(0, .const (.int .u8 65)), (1, .const (.int .u8 66)), (2, .const (.int .u8 67)), (3, .const (.int .u8 73))])), .mk (some 9) none (.k (.mrk (.tmp 8))), .mk (some 10) none (.k (.lenS (.tmp 9))), .mk (some 11) none (.k (.mov (.const (.int .i64 0))))]) (.blk 0 (.loop (.ref 5)))) (.ref 6)
def T30n8 : XC := .seq (.seq (.ops [.mk (some 5) none (.k (.load [.int .i64, .int .i64, .int .i64, .int .i64, .int .i64] true (.tmp 1))), .mk (some 6) none (.call 26 [.tmp 5]), .mk (some 7) none (.k (.not (.tmp 6)))]) (.cond (.tmp 7) (.ref 0) .skip)) (.ref 7)
def T30 : Nat → XC
 | 0 => T30n0
 | 1 => T30n1
 | 2 => T30n2
 | 3 => T30n3
 | 4 => T30n4
 | 5 => T30n5
 | 6 => T30n6
 | 7 => T30n7
 | 8 => T30n8
 | _ => .skip
theorem t30n0 : T30 0 = T30n0 := rfl
theorem t30n1 : T30 1 = T30n1 := rfl
theorem t30n2 : T30 2 = T30n2 := rfl
theorem t30n3 : T30 3 = T30n3 := rfl
theorem t30n4 : T30 4 = T30n4 := rfl
theorem t30n5 : T30 5 = T30n5 := rfl
theorem t30n6 : T30 6 = T30n6 := rfl
theorem t30n7 : T30 7 = T30n7 := rfl
theorem t30n8 : T30 8 = T30n8 := rfl
def X30 : XC := .seq (.ops [.mk (some 1) none (.k (.box 43 5 (.tmp 0))), .mk (some 2) none (.k (.mov (.const (.bool false))))]) (.ref 8)
abbrev K30 : List Nat := [0, 1, 2, 4, 7, 9, 10, 11, 12, 29]
theorem n30 : Tryd.f30.ntmps = 31 := by kernel_rfl
theorem r30 : resT Tryd.f30.results.toList = some [2] := by kernel_rfl
theorem x30 : cmpF Tryd.prog Tryd.f30 = some (expand T30 10 X30) := by kernel_rfl
end Go.Proofs.YtaiajnehnjnadaaDoor
