/- FlowCovers: the statement, walked. -/
import Derived.Test.YtgghmmjoplddbaaDoorFlSteps
import Derived.Test.YtgghmmjoplddbaaDoorDFlCode
import Derived.Test.YtgghmmjoplddbaaDoorDFlCode2
set_option linter.unusedSimpArgs false
set_option linter.unusedVariables false
set_option linter.unnecessarySimpa false
namespace Go.Proofs.YtgghmmjoplddbaaDoor
open Go Go.Sx Go.Isa
set_option maxRecDepth 100000
theorem nxs_parts {l : List In} {ps : List PR} (h : ps.map PR.pa = partsL l) {i : Nat} {p : PR} (hp : ps[i]? = some p) : p.pa = partL l (bgL l) i := by
 have h2 := congrArg (fun z => z[i]?) h
 simp only [List.getElem?_map, hp, Option.map_some] at h2
 have hi : i < ps.length := (List.getElem?_eq_some_iff.1 hp).1
 rw [partsL_get (by rw [← partsR_len h]; exact hi)] at h2
 injection h2
theorem nxs_nn {l : List In} {ps : List PR} (h : ps.map PR.pa = partsL l) : ∀ s ∈ nxs ps, s.length ≤ 2 ∧ ∀ j ∈ s, (0 : Int) ≤ j := by
 intro s hs
 unfold nxs at hs
 obtain ⟨p, hp, rfl⟩ := List.mem_map.1 hs
 obtain ⟨i, hi⟩ := List.getElem?_of_mem hp
 have e := nxs_parts h hi
 have hlt : i < (bgL l).length := by rw [← partsR_len h]; exact (List.getElem?_eq_some_iff.1 hi).1
 have hb : (bgL l)[i]? = some (bgL l)[i] := List.getElem?_eq_getElem hlt
 rw [e]
 exact ⟨nxL_len _ _ _, fun j hj => (nxL_range hb hj).1⟩
end Go.Proofs.YtgghmmjoplddbaaDoor
