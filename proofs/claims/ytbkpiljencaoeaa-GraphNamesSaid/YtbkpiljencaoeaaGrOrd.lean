/- The plain law of graphs (5): an order, the least one that is free each time. No program in sight. -/
import Derived.Test.YtbkpiljencaoeaaGrCyc
set_option linter.unusedSimpArgs false
set_option linter.unusedVariables false
set_option linter.unnecessarySimpa false
namespace Go.Gr
def cnt (ks : List Int) (d p : Int → Bool) : Nat := ks.countP fun k => d k && p k
theorem cnt_cons (a : Int) (ks : List Int) (d p : Int → Bool) : cnt (a :: ks) d p = cnt ks d p + bif d a && p a then 1 else 0 := by
 unfold cnt
 rw [List.countP_cons]
 cases d a && p a <;> simp
theorem cnt_congr {ks : List Int} {d d' p : Int → Bool} (h : ∀ k ∈ ks, d k = d' k) : cnt ks d p = cnt ks d' p := by
 unfold cnt
 apply List.countP_congr
 intro k hk
 rw [h k hk]
theorem cnt_add : ∀ {ks : List Int} {d d' p : Int → Bool} {k0 : Int}, ks.Nodup → k0 ∈ ks → d k0 = false → d' k0 = true → (∀ x, x ≠ k0 → d' x = d x) → cnt ks d' p = cnt ks d p + bif p k0 then 1 else 0
 | a :: ks, d, d', p, k0, hn, hm, h1, h2, h3 => by
  rw [cnt_cons, cnt_cons]
  obtain ⟨ha, hn⟩ := List.nodup_cons.1 hn
  by_cases e : a = k0
  ·subst e
   rw [h1, h2, cnt_congr (d := d') (d' := d) fun k hk => h3 k fun e => ha (e ▸ hk)]
   simp
  ·rw [cnt_add hn (by rcases List.mem_cons.1 hm with h | h; exact absurd h.symm e; exact h) h1 h2 h3, h3 a e]
   omega
theorem cnt_none {ks : List Int} {d p : Int → Bool} (h : ∀ k, d k = false) : cnt ks d p = 0 := by
 unfold cnt
 rw [List.countP_eq_zero]
 intro k _
 rw [h k]; simp
def pN (l : List Ed) (i : Nat) (k : Int) : Bool := (nxU l k).contains (i : Int)
theorem pN_iff (l : List Ed) (i : Nat) (k : Int) : pN l i k = true ↔ (k, (i : Int)) ∈ l := by
 unfold pN; rw [List.contains_iff_mem, nxU_mem]
def ahD (l : List Ed) (d : Int → Bool) (i : Nat) : Int := ((cnt (keysR l []) d (pN l i) : Nat) : Int)
def ahU (l : List Ed) (u : List Int) (i : Nat) : Int := if (i : Int) ∈ u then -1 else ahD l (fun k => !u.contains k) i
theorem ahU_nil (l : List Ed) (d : Int → Bool) (hd : ∀ k ∈ keysR l [], d k = true) (i : Nat) : ahD l d i = ahU l [] i := by
 unfold ahU
 rw [if_neg (by simp)]
 unfold ahD
 rw [cnt_congr (d := d) (d' := fun k => !([] : List Int).contains k) fun k hk => by rw [hd k hk]; rfl]
theorem nx_key {l : List Ed} {k x : Int} (h : (k, x) ∈ l) : k ∈ keysR l [] := (keysR_mem l [] k).2 (.inr ⟨_, h, rfl⟩)
theorem ahU_zero {l : List Ed} {u : List Int} {i : Nat} : ahU l u i = 0 ↔ (i : Int) ∉ u ∧ ∀ k : Int, (k, (i : Int)) ∈ l → k ∈ u := by
 unfold ahU
 by_cases h : (i : Int) ∈ u
 ·rw [if_pos h]
  exact ⟨fun e => absurd e (by decide), fun e => absurd h e.1⟩
 ·rw [if_neg h]
  unfold ahD cnt
  constructor
  ·intro e
   refine ⟨h, fun k hk => ?_⟩
   have e : List.countP (fun k => (!u.contains k) && pN l i k) (keysR l []) = 0 := Int.natCast_eq_zero.1 e
   rw [List.countP_eq_zero] at e
   have := e k (nx_key hk)
   rw [(pN_iff l i k).2 hk, Bool.and_true] at this
   simpa using this
  ·rintro ⟨_, e⟩
   have : List.countP (fun k => (!u.contains k) && pN l i k) (keysR l []) = 0 := by
    rw [List.countP_eq_zero]
    intro k _ hk
    simp only [Bool.and_eq_true, pN_iff] at hk
    have := e k hk.2
    simp [this] at hk
   rw [this]; rfl
def pickN (l : List Ed) (n : Nat) (u : List Int) : Nat := (List.range n).findIdx fun i => ahU l u i == 0
def grd (l : List Ed) (n : Nat) : Nat → List Int → List Int
 | 0, u => u
 | f + 1, u => if pickN l n u < n then grd l n f (u ++ [(pickN l n u : Int)]) else u
def ordL (l : List Ed) (n : Nat) : List Int := grd l n (n + 1) []
structure UInv (l : List Ed) (n : Nat) (u : List Int) : Prop where
 nd : u.Nodup
 rg : ∀ x ∈ u, 0 ≤ x ∧ x < n
 cl : ∀ x ∈ u, ∀ k : Int, (k, x) ∈ l → k ∈ u
theorem UInv.nil (l : List Ed) (n : Nat) : UInv l n [] := ⟨by simp, by simp, by simp⟩
theorem UInv.len {l : List Ed} {n : Nat} {u : List Int} (h : UInv l n u) : u.length ≤ n := nodup_le n u h.nd h.rg
theorem UInv.snoc {l : List Ed} {n : Nat} {u : List Int} (h : UInv l n u) {i : Nat} (hi : i < n) (h0 : ahU l u i = 0) : UInv l n (u ++ [(i : Int)]) := by
 obtain ⟨h1, h2⟩ := ahU_zero.1 h0
 refine ⟨?_, fun x hx => ?_, fun x hx k hk => ?_⟩
 ·rw [List.nodup_append]
  refine ⟨h.nd, by simp, fun a ha b hb => ?_⟩
  simp only [List.mem_singleton] at hb
  subst hb
  exact fun e => h1 (e ▸ ha)
 ·rcases List.mem_append.1 hx with e | e
  ·exact h.rg x e
  ·simp only [List.mem_singleton] at e; subst e; omega
 ·rcases List.mem_append.1 hx with e | e
  ·exact List.mem_append_left _ (h.cl x e k hk)
  ·simp only [List.mem_singleton] at e; subst e
   exact List.mem_append_left _ (h2 k hk)
theorem ahU_snoc {l : List Ed} {n : Nat} {u : List Int} (h : UInv l n u) {a : Nat} (h0 : ahU l u a = 0) (i : Nat) : ahU l (u ++ [(a : Int)]) i = if i = a then -1 else ahU l u i - (if (i : Int) ∈ nxU l a then 1 else 0) := by
 obtain ⟨h1, h2⟩ := ahU_zero.1 h0
 by_cases hia : i = a
 ·subst hia
  rw [if_pos rfl]
  unfold ahU; rw [if_pos (by simp)]
 rw [if_neg hia]
 have hne : (i : Int) ≠ a := by omega
 by_cases hiu : (i : Int) ∈ u
 ·have hno : (i : Int) ∉ nxU l a := fun hm => h1 (h.cl _ hiu _ ((nxU_mem l a i).1 hm))
  rw [if_neg hno]
  unfold ahU; rw [if_pos (by simp [hiu]), if_pos hiu]; omega
 ·unfold ahU
  rw [if_neg (by simp [hiu, hne]), if_neg hiu]
  unfold ahD
  by_cases hk : (a : Int) ∈ keysR l []
  ·have := cnt_add (ks := keysR l []) (d := fun k => !(u ++ [(a : Int)]).contains k) (d' := fun k => !u.contains k) (p := pN l i) (k0 := a) (keysR_nodup _ _ (by simp)) hk (by simp) (by simpa using h1) fun x hx => by simp [hx]
   rw [this]
   by_cases hm : (i : Int) ∈ nxU l a
   ·have hp : pN l i a = true := by unfold pN; rw [List.contains_iff_mem]; exact hm
    rw [hp, if_pos hm]; simp only [cond_true]; omega
   ·have hp : pN l i a = false := by
     unfold pN
     rw [Bool.eq_false_iff]; intro e; rw [List.contains_iff_mem] at e; exact hm e
    rw [hp, if_neg hm]; simp only [cond_false]; omega
  ·have hm : (i : Int) ∉ nxU l a := fun hm => hk (nx_key ((nxU_mem l a i).1 hm))
   rw [if_neg hm]
   rw [cnt_congr (d := fun k => !(u ++ [(a : Int)]).contains k) (d' := fun k => !u.contains k) fun k hkk => by
    have : k ≠ a := fun e => hk (e ▸ hkk)
    simp [this]]
   omega
theorem nxU_nodup (l : List Ed) (k : Int) : (nxU l k).Nodup := (upI_up (nxR l k)).imp fun h => by omega
theorem idxOf_map {f : Nat → Int} {n : Nat} : idxI ((List.range n).map f) 0 = if (List.range n).findIdx (fun i => f i == 0) < n then (((List.range n).findIdx (fun i => f i == 0) : Nat) : Int) else -1 := by
 rcases findIdx_spec (p := fun i => f i == 0) (n := n) with ⟨h1, h2⟩ | ⟨h1, h2, h3⟩
 ·rw [h2, if_neg (by omega)]
  unfold idxI
  rw [if_neg]
  intro hm
  obtain ⟨j, hj, he⟩ := List.mem_map.1 hm
  have := h1 j (List.mem_range.1 hj)
  simp [he] at this
 ·rw [if_pos h1]
  generalize (List.range n).findIdx (fun i => f i == 0) = q at h1 h2 h3 ⊢
  refine idxI_at (i := q) ?_ ?_
  ·rw [List.getElem?_map, List.getElem?_range h1]
   have : f q = 0 := by simpa using h2
   rw [Option.map_some, this]
  ·intro hm
   rw [← List.map_take, List.take_range, Nat.min_eq_left (by omega)] at hm
   obtain ⟨j, hj, he⟩ := List.mem_map.1 hm
   have := h3 j (List.mem_range.1 hj)
   simp [he] at this
theorem ahD_le {n : Nat} {l : List Ed} (ok : okG n l) (d : Int → Bool) (i : Nat) : 0 ≤ ahD l d i ∧ ahD l d i ≤ n := by
 have h1 : cnt (keysR l []) d (pN l i) ≤ (keysR l []).length := List.countP_le_length
 have h2 : (keysR l []).length ≤ n := nodup_le n _ (keysR_nodup _ _ (by simp)) fun x hx => by
  rcases (keysR_mem l [] x).1 hx with h | ⟨e, he, rfl⟩
  ·cases h
  ·have := ok.2.2.2 e he; omega
 unfold ahD; omega
theorem ahU_le {n : Nat} {l : List Ed} (ok : okG n l) (u : List Int) (i : Nat) : -1 ≤ ahU l u i ∧ ahU l u i ≤ n := by
 unfold ahU
 split
 ·omega
 ·have := ahD_le ok (fun k => !u.contains k) i; omega
theorem ahD_add {l : List Ed} {d d' : Int → Bool} {k : Int} (hk : k ∈ keysR l []) (h1 : d k = false) (h2 : d' k = true) (h3 : ∀ x, x ≠ k → d' x = d x) (i : Nat) : ahD l d' i = ahD l d i + (if (i : Int) ∈ nxU l k then 1 else 0) := by
 unfold ahD
 rw [cnt_add (keysR_nodup _ _ (by simp)) hk h1 h2 h3]
 by_cases hm : (i : Int) ∈ nxU l k
 ·have hp : pN l i k = true := by unfold pN; rw [List.contains_iff_mem]; exact hm
  rw [hp, if_pos hm]; simp
 ·have hp : pN l i k = false := by
   unfold pN
   rw [Bool.eq_false_iff]; intro e; rw [List.contains_iff_mem] at e; exact hm e
  rw [hp, if_neg hm]; simp
theorem take_mem {l : List Int} (hn : l.Nodup) {j : Nat} {t : Int} (hj : l[j]? = some t) (x : Int) : x ∈ l.take (j + 1) ↔ x ∈ l.take j ∨ x = t := by
 rw [List.take_add_one, hj]; simp
theorem take_not {l : List Int} (hn : l.Nodup) {j : Nat} {t : Int} (hj : l[j]? = some t) : t ∉ l.take j := by
 intro hm
 obtain ⟨i, hi⟩ := List.getElem?_of_mem hm
 rw [List.getElem?_take] at hi
 split at hi
 ·have := (List.getElem?_inj (List.getElem?_eq_some_iff.1 hi).1 hn).1 (hi.trans hj.symm)
  omega
 ·cases hi
end Go.Gr
