/- What clocks.Ahead tells is what happened ahead. -/
import Derived.Test.YtnedgfkgmdoahaaClkLaw3
set_option linter.unusedSimpArgs false
set_option linter.unusedVariables false
set_option linter.unnecessarySimpa false
namespace Go.Proofs.Ytnedgfkgmdoahaa
open Go Go.Sx Go.Clk
set_option maxRecDepth 100000
theorem co_lt {l : List Sy} (ho : okLs l) (i : Nat) : co l i < 4 := by
 unfold co at'
 rw [List.getD_eq_getElem?_getD]
 cases h : l[i]? with
 | none => decide
 | some x => have := ho.2 x (List.mem_of_getElem? h); obtain ⟨h1, h2, _⟩ := this; show x.core.toNat < 4; omega
theorem ahB_eq {l : List Sy} (ho : okLs l) {i k : Nat} (hi : i < l.length) (hk : k < l.length) : ahB (clks l l.length) i k = true ↔ HB l i k := by
 unfold ahB
 rw [Int.toNat_natCast, Int.toNat_natCast, clks_getD l hi, clks_getD l hk, Bool.and_eq_true, belB_iff]
 constructor
 ·rintro ⟨h1, h2⟩
  have h1 : i < k := by have := of_decide_eq_true h1; omega
  exact (bel_HB l (co_lt ho i) h1).1 h2
 ·intro h
  exact ⟨decide_eq_true (by have := h.lt; omega), (bel_HB l (co_lt ho i) h.lt).2 h⟩
end Go.Proofs.Ytnedgfkgmdoahaa
