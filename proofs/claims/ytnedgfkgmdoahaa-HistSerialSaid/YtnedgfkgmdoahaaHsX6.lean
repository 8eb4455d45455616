/- shuntref12.Races. -/
import Derived.Test.YtnedgfkgmdoahaaHsX5
import Derived.Test.YtnedgfkgmdoahaaHsCodeT
set_option linter.unusedSimpArgs false
set_option linter.unusedVariables false
set_option linter.unnecessarySimpa false
namespace Go.Proofs.Ytnedgfkgmdoahaa
open Go Go.Sx Go.Hs
set_option maxRecDepth 100000
def frst (p : Nat → Bool) : Nat → Option Nat
 | 0 => none
 | n + 1 => match frst p n with
  | some m => some m
  | none => if p n then some n else none
theorem frst_hit {p : Nat → Bool} {n : Nat} (h0 : frst p n = none) (h1 : p n = true) : ∀ {m : Nat}, n < m → frst p m = some n
 | 0, h => by omega
 | m + 1, h => by
  by_cases e : n = m
  ·subst e; simp only [frst]; rw [h0, h1]; rfl
  ·simp only [frst]; rw [frst_hit h0 h1 (m := m) (by omega)]
theorem frst_miss {p : Nat → Bool} {n : Nat} (h0 : frst p n = none) (h1 : p n = false) : frst p (n + 1) = none := by
 simp only [frst]; rw [h0, h1]; rfl
theorem AtsAt.of {w : World} {N n c : Nat} {A : Option Addr} {z : List (At × Hd)} (h : World.ownsB w N 90 11 (.slice A n c) n (cellsTs z)) (h2 : AttAt w z) : AtsAt w A z := ⟨RowAt.of_own h rfl, h2⟩
end Go.Proofs.Ytnedgfkgmdoahaa
