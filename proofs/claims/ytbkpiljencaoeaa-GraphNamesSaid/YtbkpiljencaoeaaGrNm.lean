/- GraphNames: what the closed graphs come to. No program in sight. -/
import Derived.Test.YtbkpiljencaoeaaHsRef
import Derived.Test.YtbkpiljencaoeaaGrWsh
set_option linter.unusedSimpArgs false
set_option linter.unusedVariables false
set_option linter.unnecessarySimpa false
namespace Go.Gr
theorem nm_ord : (ordL [(0, 2), (2, 3), (3, 2), (3, 0)] 4).length < 4 := by rw [ordB_eq]; decide
theorem nm_cyc0 : cycL [(3, 1), (1, 0)] 4 = [] := by rw [cycB_eq (by decide)]; decide
theorem nm_cyc1 : cycL [(1, 1)] 2 = [1] := by rw [cycB_eq (by decide)]; decide
theorem nm_bh : bhB [(0, 1), (1, 2)] 0 2 = true ∧ bhB [(0, 1), (1, 2)] 0 0 = false ∧ bhB [(0, 1), (1, 2)] 2 0 = false := by
 have ok : okG 3 [(0, 1), (1, 2)] := by decide
 rw [wsN_bh ok, wsN_bh ok, wsN_bh ok]; decide
end Go.Gr
namespace Go.Hs
open Go.Gr
def twoL : List Ev := [⟨1, 0, 0, 0, 0, 1, 0, 0, 0⟩, ⟨1, 0, 1, 0, 0, 1, 0, 0, 0⟩, ⟨2, 0, 0, 0, 0, 0, 8, 0, 0⟩, ⟨3, 0, 1, 0, 0, 0, 8, 5, 0⟩, ⟨5, 0, 0, 0, 0, 0, 0, 0, 0⟩, ⟨5, 0, 1, 0, 0, 0, 0, 0, 0⟩]
theorem two_com : ∃ l, comO twoL = some l ∧ l.length = 2 ∧ edL l = [(0, 1)] := by
 have h : (comO twoL).map (fun l => (l.length, edL l)) = some (2, [(0, 1)]) := by decide
 cases hc : comO twoL with
 | none => rw [hc] at h; cases h
 | some l =>
  rw [hc] at h
  injection h with h
  injection h with h1 h2
  exact ⟨l, rfl, h1, h2⟩
theorem two_ex1 : exA twoL [] [0, 1] = (true, 0) := by decide
theorem two_ex2 : exA twoL [] [1, 0] = (false, 0) := by decide
theorem two_ex3 : exA twoL [] [0, 0] = (false, 2) := by decide
theorem ex7 : exA [⟨7, 0, 0, 0, 0, 0, 0, 0, 0⟩] [] [] = (false, 120) := by decide
theorem com5 : comO [⟨5, 0, 0, 0, 0, 0, 0, 0, 0⟩] = none := by
 have h : (comO [⟨5, 0, 0, 0, 0, 0, 0, 0, 0⟩]).isNone = true := by decide
 simpa using h
end Go.Hs
