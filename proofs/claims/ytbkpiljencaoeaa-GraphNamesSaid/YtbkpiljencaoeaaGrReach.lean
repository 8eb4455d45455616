/- The plain law of graphs (3): who is behind whom. No program in sight. -/
import Derived.Test.YtbkpiljencaoeaaGrPlain
set_option linter.unusedSimpArgs false
set_option linter.unusedVariables false
set_option linter.unnecessarySimpa false
namespace Go.Gr
inductive Bh (l : List Ed) (i : Int) : Int → Prop where
 | one {k : Int} : (i, k) ∈ l → Bh l i k
 | step {k m : Int} : Bh l i k → (k, m) ∈ l → Bh l i m
theorem Bh.lt {n : Int} {l : List Ed} {i k : Int} (h : Bh l i k) (ok : okG n l) : 0 ≤ k ∧ k < n := by
 cases h with
 | one h => exact ⟨(ok.2.2.2 _ h).2.2.1, (ok.2.2.2 _ h).2.2.2⟩
 | step _ h => exact ⟨(ok.2.2.2 _ h).2.2.1, (ok.2.2.2 _ h).2.2.2⟩
theorem Bh.src {n : Int} {l : List Ed} {i k : Int} (h : Bh l i k) (ok : okG n l) : 0 ≤ i ∧ i < n := by
 induction h with
 | one h => exact ⟨(ok.2.2.2 _ h).1, (ok.2.2.2 _ h).2.1⟩
 | step _ _ ih => exact ih
theorem Bh.trans {l : List Ed} {i k m : Int} (h : Bh l i k) (q : Bh l k m) : Bh l i m := by
 induction q with
 | one e => exact .step h e
 | step _ e ih => exact .step ih e
theorem Bh.mono {l l' : List Ed} (hs : ∀ e ∈ l, e ∈ l') {i k : Int} (h : Bh l i k) : Bh l' i k := by
 induction h with
 | one e => exact .one (hs _ e)
 | step _ e ih => exact .step ih (hs _ e)
open Classical in
noncomputable def bhB (l : List Ed) (i k : Nat) : Bool := decide (Bh l i k)
theorem bhB_iff (l : List Ed) (i k : Nat) : bhB l i k = true ↔ Bh l i k := by unfold bhB; exact @decide_eq_true_iff _ (Classical.propDecidable _)
structure DInv (l : List Ed) (i : Int) (row : Nat → Bool) (ws : List Int) : Prop where
 snd : ∀ k : Nat, row k = true → Bh l i k
 cand : ∀ w ∈ ws, Bh l i w
 cl : ∀ (k : Nat) (m : Int), row k = true → ((k : Int), m) ∈ l → row m.toNat = true ∨ m ∈ ws
 base : ∀ m : Int, (i, m) ∈ l → row m.toNat = true ∨ m ∈ ws
theorem DInv.start (l : List Ed) (i : Int) : DInv l i (fun _ => false) (nxU l i) :=
 ⟨fun k h => (by cases h), fun w hw => .one ((nxU_mem l i w).1 hw), fun k m h => (by cases h), fun m hm => .inr ((nxU_mem l i m).2 hm)⟩
theorem DInv.skip {l : List Ed} {i : Int} {row : Nat → Bool} {ws : List Int} {w : Int} (h : DInv l i row (ws ++ [w])) (hw : row w.toNat = true) : DInv l i row ws := by
 refine ⟨h.snd, fun x hx => h.cand x (by simp [hx]), fun k m hk hm => ?_, fun m hm => ?_⟩
 ·rcases h.cl k m hk hm with e | e
  ·exact .inl e
  ·rcases List.mem_append.1 e with e | e
   ·exact .inr e
   ·simp only [List.mem_singleton] at e; subst e; exact .inl hw
 ·rcases h.base m hm with e | e
  ·exact .inl e
  ·rcases List.mem_append.1 e with e | e
   ·exact .inr e
   ·simp only [List.mem_singleton] at e; subst e; exact .inl hw
theorem DInv.mark {n : Int} {l : List Ed} {i : Int} {row : Nat → Bool} {ws : List Int} {w : Int} (ok : okG n l) (h : DInv l i row (ws ++ [w])) : DInv l i (fun j => if j = w.toNat then true else row j) (ws ++ nxU l w) := by
 have hw := h.cand w (by simp)
 have hw0 := (hw.lt ok).1
 have up : ∀ j, row j = true → (if j = w.toNat then true else row j) = true := fun j hj => by split <;> simp_all
 refine ⟨fun k hk => ?_, fun x hx => ?_, fun k m hk hm => ?_, fun m hm => ?_⟩
 ·by_cases e : k = w.toNat
  ·subst e; rw [Int.toNat_of_nonneg hw0]; exact hw
  ·simp only [if_neg e] at hk; exact h.snd k hk
 ·rcases List.mem_append.1 hx with e | e
  ·exact h.cand x (by simp [e])
  ·exact .step hw ((nxU_mem l w x).1 e)
 ·by_cases e : k = w.toNat
  ·subst e
   rw [Int.toNat_of_nonneg hw0] at hm
   exact .inr (List.mem_append_right _ ((nxU_mem l w m).2 hm))
  ·simp only [if_neg e] at hk
   rcases h.cl k m hk hm with q | q
   ·exact .inl (up _ q)
   ·rcases List.mem_append.1 q with q | q
    ·exact .inr (by simp [q])
    ·simp only [List.mem_singleton] at q; subst q; exact .inl (by simp)
 ·rcases h.base m hm with q | q
  ·exact .inl (up _ q)
  ·rcases List.mem_append.1 q with q | q
   ·exact .inr (by simp [q])
   ·simp only [List.mem_singleton] at q; subst q; exact .inl (by simp)
theorem DInv.fin {n : Int} {l : List Ed} {i : Nat} {row : Nat → Bool} (ok : okG n l) (h : DInv l i row []) (k : Nat) : row k = bhB l i k := by
 rw [Bool.eq_iff_iff, bhB_iff]
 constructor
 ·exact h.snd k
 ·intro hb
  have all : ∀ m : Int, Bh l i m → row m.toNat = true := by
   intro m hm
   induction hm with
   | one e =>
    rcases h.base _ e with q | q
    ·exact q
    ·cases q
   | step hb e ih =>
    have h0 := (hb.lt ok).1
    rcases h.cl _ _ ih (by rw [Int.toNat_of_nonneg h0]; exact e) with q | q
    ·exact q
    ·cases q
  have := all _ hb
  rwa [Int.toNat_natCast] at this
def cntN (n : Nat) (row : Nat → Bool) : Nat := (List.range n).countP fun k => !row k
theorem cntN_succ (n : Nat) (row : Nat → Bool) : cntN (n + 1) row = cntN n row + bif row n then 0 else 1 := by
 unfold cntN
 rw [List.range_succ, List.countP_append]
 cases h : row n <;> simp [List.countP_cons, h]
theorem cntN_off : ∀ (n : Nat) {k : Nat} (row : Nat → Bool), n ≤ k → cntN n (fun j => if j = k then true else row j) = cntN n row
 | 0, k, row, h => rfl
 | n + 1, k, row, h => by
  rw [cntN_succ, cntN_succ, cntN_off n row (by omega), if_neg (by omega)]
theorem cntN_set : ∀ (n : Nat) {k : Nat} {row : Nat → Bool}, k < n → row k = false → cntN n (fun j => if j = k then true else row j) + 1 = cntN n row
 | n + 1, k, row, h, hk => by
  rw [cntN_succ, cntN_succ]
  by_cases e : k = n
  ·subst e
   rw [cntN_off _ _ (Nat.le_refl _), if_pos rfl, hk]; rfl
  ·have := cntN_set n (k := k) (row := row) (by omega) hk
   rw [if_neg (fun q => e q.symm)]; omega
theorem cntN_zero : ∀ (n : Nat), cntN n (fun _ => false) = n
 | 0 => rfl
 | n + 1 => by rw [cntN_succ, cntN_zero n]; rfl
def idxI (l : List Int) (x : Int) : Int := if x ∈ l then ((l.idxOf x : Nat) : Int) else -1
theorem idxOf_at {x : Int} : ∀ {l : List Int} {i : Nat}, l[i]? = some x → x ∉ l.take i → l.idxOf x = i
 | y :: l, 0, h, _ => by
  simp only [List.getElem?_cons_zero, Option.some.injEq] at h
  subst h; simp
 | y :: l, i + 1, h, hn => by
  simp only [List.take_succ_cons, List.mem_cons, not_or] at hn
  have ih := idxOf_at (l := l) (i := i) (by simpa using h) hn.2
  rw [List.idxOf_cons, show (y == x) = false by simpa using fun e => hn.1 e.symm, ih]; rfl
theorem idxI_at {l : List Int} {x : Int} {i : Nat} (h : l[i]? = some x) (hn : x ∉ l.take i) : idxI l x = i := by
 unfold idxI
 rw [if_pos (List.mem_of_getElem? h), idxOf_at h hn]
theorem idxI_no {l : List Int} {x : Int} (h : x ∉ l.take l.length) : idxI l x = -1 := by
 unfold idxI
 rw [List.take_of_length_le (Nat.le_refl _)] at h
 rw [if_neg h]
def minI (x : Int) (l : List Int) : Int := l.foldl min x
theorem minI_snoc (x : Int) (l : List Int) (y : Int) : minI x (l ++ [y]) = min (minI x l) y := by unfold minI; rw [List.foldl_append]; rfl
theorem minI_mem : ∀ (l : List Int) (x : Int), minI x l ∈ x :: l
 | [], x => by simp [minI]
 | y :: l, x => by
  have ih := minI_mem l (min x y)
  have e : minI x (y :: l) = minI (min x y) l := rfl
  rw [e]
  rcases List.mem_cons.1 ih with h | h
  ·rw [h]
   by_cases q : x ≤ y
   ·rw [Int.min_eq_left q]; simp
   ·rw [Int.min_eq_right (by omega)]; simp
  ·simp [h]
end Go.Gr
