/- shuntlaw26.ClocksOf: it answers true. -/
import Derived.Test.YtnedgfkgmdoahaaHsW8
import Derived.Test.YtnedgfkgmdoahaaHsCodeO
set_option linter.unusedSimpArgs false
set_option linter.unusedVariables false
set_option linter.unnecessarySimpa false
namespace Go.Proofs.Ytnedgfkgmdoahaa
open Go Go.Sx Go.Hs Go.Clk
set_option maxRecDepth 100000
theorem evs_one (h : List Ev) : ∀ u ∈ cellsE h, u.oneCell' = true := by
 intro u hu
 obtain ⟨e, _, he⟩ := List.mem_flatMap.1 hu
 simp only [Ev.cells, List.mem_cons, List.not_mem_nil, or_false] at he
 rcases he with rfl | rfl | rfl | rfl | rfl | rfl | rfl | rfl | rfl <;> rfl
end Go.Proofs.Ytnedgfkgmdoahaa
