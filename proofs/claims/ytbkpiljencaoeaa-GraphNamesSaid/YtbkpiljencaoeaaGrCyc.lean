/- The plain law of graphs (4): a cycle, as it is looked for. No program in sight. -/
import Derived.Test.YtbkpiljencaoeaaGrReach
set_option linter.unusedSimpArgs false
set_option linter.unusedVariables false
set_option linter.unnecessarySimpa false
namespace Go.Gr
noncomputable def selfN (l : List Ed) (n : Nat) : Nat := (List.range n).findIdx fun i => bhB l i i
theorem findIdx_range {p : Nat → Bool} {n i : Nat} (hi : i < n) (h : ∀ j, j < i → p j = false) (hp : p i = true) : (List.range n).findIdx p = i := by
 rw [List.findIdx_eq (by simpa using hi)]
 refine ⟨by simpa using hp, fun j hj => ?_⟩
 simpa using h j hj
theorem findIdx_none {p : Nat → Bool} {n : Nat} (h : ∀ j, j < n → p j = false) : (List.range n).findIdx p = n := by
 have := List.findIdx_eq_length_of_false (xs := List.range n) (p := p) fun x hx => by
  have := List.mem_range.1 hx
  simpa using h x this
 simpa using this
theorem findIdx_spec {p : Nat → Bool} {n : Nat} : (∀ j, j < n → p j = false) ∧ (List.range n).findIdx p = n ∨ (List.range n).findIdx p < n ∧ p ((List.range n).findIdx p) = true ∧ ∀ j, j < (List.range n).findIdx p → p j = false := by
 by_cases h : ∀ j, j < n → p j = false
 ·exact .inl ⟨h, findIdx_none h⟩
 ·right
  have hx : ∃ x ∈ List.range n, p x = true := by
   refine Classical.byContradiction fun hn => h fun j hj => ?_
   cases hp : p j with
   | false => rfl
   | true => exact absurd ⟨j, List.mem_range.2 hj, hp⟩ hn
  have hlt := List.findIdx_lt_length_of_exists hx
  rw [List.length_range] at hlt
  refine ⟨hlt, ?_, fun j hj => ?_⟩
  ·have := List.findIdx_getElem (xs := List.range n) (p := p) (w := by simpa using hlt)
   simpa using this
  ·have := List.not_of_lt_findIdx (xs := List.range n) (p := p) hj
   simpa using this
noncomputable def stepC (l : List Ed) (k : Nat) : Nat := match (nxU l k).find? fun t => bhB l t.toNat k with
 | some t => t.toNat
 | none => k
theorem stepC_at {l : List Ed} {k j : Nat} {t : Int} (h : (nxU l k)[j]? = some t) (hb : bhB l t.toNat k = true) (hn : ∀ x ∈ (nxU l k).take j, bhB l x.toNat k = false) : stepC l k = t.toNat := by
 have e : (nxU l k).find? (fun t => bhB l t.toNat k) = some t := by
  rw [List.find?_eq_some_iff_append]
  refine ⟨hb, (nxU l k).take j, (nxU l k).drop (j + 1), ?_, fun a ha => by rw [hn a ha]; rfl⟩
  have h1 := List.take_append_drop j (nxU l k)
  rw [List.drop_eq_getElem_cons (List.getElem?_eq_some_iff.1 h).1, (List.getElem?_eq_some_iff.1 h).2] at h1
  exact h1.symm
 unfold stepC; rw [e]
theorem stepC_none {l : List Ed} {k : Nat} (h : ∀ x ∈ nxU l k, bhB l x.toNat k = false) : stepC l k = k := by
 have e : (nxU l k).find? (fun t => bhB l t.toNat k) = none := by
  rw [List.find?_eq_none]
  intro x hx; rw [h x hx]; simp
 unfold stepC; rw [e]
theorem stepC_lt {n : Nat} {l : List Ed} (ok : okG n l) {k : Nat} (hk : k < n) : stepC l k < n := by
 unfold stepC
 split
 ·rename_i t ht
  have := ok.2.2.2 _ ((nxU_mem l k t).1 (List.mem_of_find?_eq_some ht))
  omega
 ·exact hk
noncomputable def walkC (l : List Ed) : Nat → List Int → Nat → List Int
 | 0, w, _ => w
 | f + 1, w, k => if (k : Int) ∈ w then w.drop (w.idxOf (k : Int)) else walkC l f (w ++ [(k : Int)]) (stepC l k)
def rotL : List Int → List Int
 | [] => []
 | x :: r => (x :: r).drop ((x :: r).idxOf (minI x r)) ++ (x :: r).take ((x :: r).idxOf (minI x r))
open Classical in
noncomputable def cycL (l : List Ed) (n : Nat) : List Int := if selfN l n = n then [] else rotL (walkC l (n + 1) [] (selfN l n))
theorem nodup_le : ∀ (n : Nat) (w : List Int), w.Nodup → (∀ x ∈ w, 0 ≤ x ∧ x < n) → w.length ≤ n
 | 0, w, _, h => by
  cases w with
  | nil => simp
  | cons x w => have := h x (by simp); omega
 | n + 1, w, hn, h => by
  by_cases hm : (n : Int) ∈ w
  ·have h1 := nodup_le n (w.erase n) (hn.erase _) fun x hx => by
    have h2 := h x (List.mem_of_mem_erase hx)
    have h3 : x ≠ n := fun e => by subst e; exact hn.not_mem_erase hx
    omega
   rw [List.length_erase_of_mem hm] at h1
   omega
  ·have := nodup_le n w hn fun x hx => by
    have h2 := h x hx
    have h3 : x ≠ n := fun e => by subst e; exact hm hx
    omega
   omega
end Go.Gr
