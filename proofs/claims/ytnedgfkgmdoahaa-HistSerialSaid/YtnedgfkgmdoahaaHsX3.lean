/- shuntref12.Split: all attempts, by the document. -/
import Derived.Test.YtnedgfkgmdoahaaHsX2
import Derived.Test.YtnedgfkgmdoahaaHsCodeT
set_option linter.unusedSimpArgs false
set_option linter.unusedVariables false
set_option linter.unnecessarySimpa false
namespace Go.Proofs.Ytnedgfkgmdoahaa
open Go Go.Sx Go.Hs
set_option maxRecDepth 100000
def AttE (E : Env) (z : List (At × Hd)) : Prop := ∀ p ∈ z, RowE E p.2.lA (cellsPr p.1.loads) ∧ RowE E p.2.sA (cellsPr p.1.stores)
def AttAt (w : World) (z : List (At × Hd)) : Prop := ∀ p ∈ z, RowAt w p.2.lA (cellsPr p.1.loads) ∧ RowAt w p.2.sA (cellsPr p.1.stores)
theorem AttE.over {E E' : Env} {z : List (At × Hd)} (h : AttE E z) (o : Over E E') : AttE E' z := fun p hp => ⟨(h p hp).1.over o, (h p hp).2.over o⟩
theorem AttE.at {E : Env} {z : List (At × Hd)} (h : AttE E z) {H : List SO} {W : World} (hW : HeapOk E H W) : AttAt W z := fun p hp => ⟨(h p hp).1.at hW, (h p hp).2.at hW⟩
theorem AttAt.keep {w w' : World} {z : List (At × Hd)} (h : AttAt w z) (k : Fresh w w') : AttAt w' z := fun p hp => ⟨(h p hp).1.keep k, (h p hp).2.keep k⟩
structure SrI where
 n : Nat
 z : List (At × Hd)
 oA : Option Addr
 oc : Nat
 dA : Option Addr
 dc : Nat
 b : World
 N : Nat
 st : List Nat
end Go.Proofs.Ytnedgfkgmdoahaa
