/- Printed by program: the small code of functions, and that it is theirs. -/
import Derived.Test.YtaiajnehnjnadaaDoorSxStill
import Derived.Test.YtaiajnehnjnadaaDoorProg
import Derived.KernelRfl
set_option linter.unusedSimpArgs false
set_option linter.unusedVariables false
set_option linter.unnecessarySimpa false
namespace Go.Proofs.YtaiajnehnjnadaaDoor
open Go Go.Sx
set_option maxRecDepth 100000
def T10n0:XC:=.seq (.ops [zm 9 3,zx 10 (.cmp .eql .i64 (.tmp 9) (.const (.int .i64 0))),zm 11 10,zh 12 11 true 2,zg 13 11 true (.cmp .eql .i64 (.tmp 12) (.const (.int .i64 0))),zx 14 (.pick (.tmp 11) (.tmp 13) (.const (.bool false))),zm 15 14,zh 16 15 true 1,zg 17 15 true (.lenS (.tmp 16)),zg 18 15 true (.cmp .eql .i64 (.tmp 17) (.const (.int .i64 3))),zx 19 (.pick (.tmp 15) (.tmp 18) (.const (.bool false))),zm 20 19,zh 21 20 true 1,zg 22 20 true (.idx 5 (.tmp 21) (.const (.int .i64 1))),zg 23 20 true (.load [.int .i64,.int .i64,.int .i64,.int .i64,.int .i64] true (.tmp 22)),zg 24 20 true (.build [.int .i64 0,.int .i64 0,.int .i64 0,.int .i64 0,.int .i64 0] [(0,1,.const (.int .i64 14)),(1,1,.const (.int .i64 1))]),zg 25 20 true (.eqa false [.int .i64,.int .i64,.int .i64,.int .i64,.int .i64] (.tmp 23) (.tmp 24)),zx 26 (.pick (.tmp 20) (.tmp 25) (.const (.bool false))),zm 27 26,zh 28 27 true 1,zg 29 27 true (.idx 5 (.tmp 28) (.const (.int .i64 2))),zg 30 27 true (.fld 0 (.tmp 29)),zg 31 27 true (.load [.int .i64] false (.tmp 30)),zg 32 27 true (.cmp .eql .i64 (.tmp 31) (.const (.int .i64 1))),zx 33 (.pick (.tmp 27) (.tmp 32) (.const (.bool false))),zm 0 33]) .ret
def T10n1:XC:=.seq (.ops [.mk (some 5) none (.call 11 [.const (.string (ByteArray.mk (Array.mk [UInt8.ofNat 108,UInt8.ofNat 111,UInt8.ofNat 111,UInt8.ofNat 112,UInt8.ofNat 58,UInt8.ofNat 10,UInt8.ofNat 32,UInt8.ofNat 108,UInt8.ofNat 111,UInt8.ofNat 97,UInt8.ofNat 100,UInt8.ofNat 32,UInt8.ofNat 49,UInt8.ofNat 32,UInt8.ofNat 48,UInt8.ofNat 32,UInt8.ofNat 56,UInt8.ofNat 10,UInt8.ofNat 32,UInt8.ofNat 101,UInt8.ofNat 113,UInt8.ofNat 32,UInt8.ofNat 49,UInt8.ofNat 32,UInt8.ofNat 48,UInt8.ofNat 32,UInt8.ofNat 108,UInt8.ofNat 111,UInt8.ofNat 111,UInt8.ofNat 112,UInt8.ofNat 32,UInt8.ofNat 59,UInt8.ofNat 32,UInt8.ofNat 97,UInt8.ofNat 103,UInt8.ofNat 97,UInt8.ofNat 105,UInt8.ofNat 110,UInt8.ofNat 10,UInt8.ofNat 104,UInt8.ofNat 97,UInt8.ofNat 108,UInt8.ofNat 116])))]),zm 4 5,zy 6 4 0,zy 7 4 1,zy 8 4 2,zm 1 6,zm 2 7,zm 3 8]) (.ref 0)
def T10:Nat→XC
 | 0=>T10n0
 | 1=>T10n1
 | _=>.skip
theorem t10n0:T10 0=T10n0:=rfl
theorem t10n1:T10 1=T10n1:=rfl
def X10:XC:=.seq (.ops [zx 0 (.mov (.const (.bool false)))]) (.ref 1)
abbrev K10:List Nat:=[0,1,2,3]
theorem n10:Tryd.f10.ntmps=34:=by kernel_rfl
theorem r10:resT Tryd.f10.results.toList=some [0]:=by kernel_rfl
theorem x10:cmpF Tryd.prog Tryd.f10=some (expand T10 3 X10):=by kernel_rfl
attribute [go_sem] t10n0 t10n1 T10n0 T10n1 X10
end Go.Proofs.YtaiajnehnjnadaaDoor
