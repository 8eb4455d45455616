/- The document's Legal. -/
import Derived.Test.YtlbiogokpadaoaaGreatDoorBgIsa3
import Derived.Test.YtlbiogokpadaoaaGreatDoorBgCodeIsa
import Derived.Test.YtlbiogokpadaoaaGreatDoorIsaSpec
import Derived.Test.YtlbiogokpadaoaaGreatDoorSxStill
import Derived.Test.YtlbiogokpadaoaaGreatDoorBgCodeThr
set_option linter.unusedSimpArgs false
set_option linter.unusedVariables false
set_option linter.unnecessarySimpa false
namespace Go.Proofs.YtlbiogokpadaoaaGreatDoor
open Go Go.Sx Go.Isa
set_option maxRecDepth 100000
end Go.Proofs.YtlbiogokpadaoaaGreatDoor
namespace Go.Proofs.YtlbiogokpadaoaaGreatDoor
open Go Go.Sx Go.Isa
set_option maxRecDepth 100000
theorem oneI (l : List In) : ∀ u ∈ cellsI l, u.oneCell' = true := by
 intro u hu
 simp only [cellsI, In.cells, List.mem_flatMap, List.mem_cons, List.not_mem_nil, or_false] at hu
 obtain ⟨x, _, rfl | rfl | rfl | rfl | rfl⟩ := hu <;> rfl
theorem cellI {w : World} {A : Option Addr} {l : List In} {nt i : Nat} (h : RowAt w A (cellsI l)) (hi : i < l.length) {k : Nat} {v : Value} (hk : (l[i]).cells[k]? = some v) : CellAt ⟨w, w.heap.size, [], nt, []⟩ A (i * 5 + k) v :=
 h.cell (by rw [cellsI_get l hi (List.getElem?_eq_some_iff.1 hk).1]; exact hk)
theorem someI {w : World} {A : Option Addr} {l : List In} {i : Nat} (h : RowAt w A (cellsI l)) (hi : i < l.length) : A.isSome = true := h.isSome (j := i * 5) (by rw [cellsI_len]; omega)
end Go.Proofs.YtlbiogokpadaoaaGreatDoor
