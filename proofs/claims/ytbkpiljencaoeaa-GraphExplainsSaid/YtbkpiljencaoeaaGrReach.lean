/- The plain law of graphs (3): who is behind whom. No program in sight. -/
import Derived.Test.YtbkpiljencaoeaaGrPlain
import Derived.Test.YtbkpiljencaoeaaHsRef
set_option linter.unusedSimpArgs false
set_option linter.unusedVariables false
set_option linter.unnecessarySimpa false
namespace Go.Gr
inductive Bh (l : List Ed) (i : Int) : Int → Prop where
 | one {k : Int} : (i, k) ∈ l → Bh l i k
 | step {k m : Int} : Bh l i k → (k, m) ∈ l → Bh l i m
theorem Bh.lt {n : Int} {l : List Ed} {i k : Int} (h : Bh l i k) (ok : okG n l) : 0 ≤ k ∧ k < n := by
 cases h with
 | one h => exact ⟨(ok.2.2.2 _ h).2.2.1, (ok.2.2.2 _ h).2.2.2⟩
 | step _ h => exact ⟨(ok.2.2.2 _ h).2.2.1, (ok.2.2.2 _ h).2.2.2⟩
theorem Bh.src {n : Int} {l : List Ed} {i k : Int} (h : Bh l i k) (ok : okG n l) : 0 ≤ i ∧ i < n := by
 induction h with
 | one h => exact ⟨(ok.2.2.2 _ h).1, (ok.2.2.2 _ h).2.1⟩
 | step _ _ ih => exact ih
theorem Bh.trans {l : List Ed} {i k m : Int} (h : Bh l i k) (q : Bh l k m) : Bh l i m := by
 induction q with
 | one e => exact .step h e
 | step _ e ih => exact .step ih e
theorem Bh.mono {l l' : List Ed} (hs : ∀ e ∈ l, e ∈ l') {i k : Int} (h : Bh l i k) : Bh l' i k := by
 induction h with
 | one e => exact .one (hs _ e)
 | step _ e ih => exact .step ih (hs _ e)
open Classical in
noncomputable def bhB (l : List Ed) (i k : Nat) : Bool := decide (Bh l i k)
theorem bhB_iff (l : List Ed) (i k : Nat) : bhB l i k = true ↔ Bh l i k := by unfold bhB; exact @decide_eq_true_iff _ (Classical.propDecidable _)
structure DInv (l : List Ed) (i : Int) (row : Nat → Bool) (ws : List Int) : Prop where
 snd : ∀ k : Nat, row k = true → Bh l i k
 cand : ∀ w ∈ ws, Bh l i w
 cl : ∀ (k : Nat) (m : Int), row k = true → ((k : Int), m) ∈ l → row m.toNat = true ∨ m ∈ ws
 base : ∀ m : Int, (i, m) ∈ l → row m.toNat = true ∨ m ∈ ws
theorem DInv.start (l : List Ed) (i : Int) : DInv l i (fun _ => false) (nxU l i) :=
 ⟨fun k h => (by cases h), fun w hw => .one ((nxU_mem l i w).1 hw), fun k m h => (by cases h), fun m hm => .inr ((nxU_mem l i m).2 hm)⟩
theorem DInv.skip {l : List Ed} {i : Int} {row : Nat → Bool} {ws : List Int} {w : Int} (h : DInv l i row (ws ++ [w])) (hw : row w.toNat = true) : DInv l i row ws := by
 refine ⟨h.snd, fun x hx => h.cand x (by simp [hx]), fun k m hk hm => ?_, fun m hm => ?_⟩
 ·rcases h.cl k m hk hm with e | e
  ·exact .inl e
  ·rcases List.mem_append.1 e with e | e
   ·exact .inr e
   ·simp only [List.mem_singleton] at e; subst e; exact .inl hw
 ·rcases h.base m hm with e | e
  ·exact .inl e
  ·rcases List.mem_append.1 e with e | e
   ·exact .inr e
   ·simp only [List.mem_singleton] at e; subst e; exact .inl hw
theorem DInv.mark {n : Int} {l : List Ed} {i : Int} {row : Nat → Bool} {ws : List Int} {w : Int} (ok : okG n l) (h : DInv l i row (ws ++ [w])) : DInv l i (fun j => if j = w.toNat then true else row j) (ws ++ nxU l w) := by
 have hw := h.cand w (by simp)
 have hw0 := (hw.lt ok).1
 have up : ∀ j, row j = true → (if j = w.toNat then true else row j) = true := fun j hj => by split <;> simp_all
 refine ⟨fun k hk => ?_, fun x hx => ?_, fun k m hk hm => ?_, fun m hm => ?_⟩
 ·by_cases e : k = w.toNat
  ·subst e; rw [Int.toNat_of_nonneg hw0]; exact hw
  ·simp only [if_neg e] at hk; exact h.snd k hk
 ·rcases List.mem_append.1 hx with e | e
  ·exact h.cand x (by simp [e])
  ·exact .step hw ((nxU_mem l w x).1 e)
 ·by_cases e : k = w.toNat
  ·subst e
   rw [Int.toNat_of_nonneg hw0] at hm
   exact .inr (List.mem_append_right _ ((nxU_mem l w m).2 hm))
  ·simp only [if_neg e] at hk
   rcases h.cl k m hk hm with q | q
   ·exact .inl (up _ q)
   ·rcases List.mem_append.1 q with q | q
    ·exact .inr (by simp [q])
    ·simp only [List.mem_singleton] at q; subst q; exact .inl (by simp)
 ·rcases h.base m hm with q | q
  ·exact .inl (up _ q)
  ·rcases List.mem_append.1 q with q | q
   ·exact .inr (by simp [q])
   ·simp only [List.mem_singleton] at q; subst q; exact .inl (by simp)
theorem DInv.fin {n : Int} {l : List Ed} {i : Nat} {row : Nat → Bool} (ok : okG n l) (h : DInv l i row []) (k : Nat) : row k = bhB l i k := by
 rw [Bool.eq_iff_iff, bhB_iff]
 constructor
 ·exact h.snd k
 ·intro hb
  have all : ∀ m : Int, Bh l i m → row m.toNat = true := by
   intro m hm
   induction hm with
   | one e =>
    rcases h.base _ e with q | q
    ·exact q
    ·cases q
   | step hb e ih =>
    have h0 := (hb.lt ok).1
    rcases h.cl _ _ ih (by rw [Int.toNat_of_nonneg h0]; exact e) with q | q
    ·exact q
    ·cases q
  have := all _ hb
  rwa [Int.toNat_natCast] at this
def cntN (n : Nat) (row : Nat → Bool) : Nat := (List.range n).countP fun k => !row k
theorem cntN_succ (n : Nat) (row : Nat → Bool) : cntN (n + 1) row = cntN n row + bif row n then 0 else 1 := by
 unfold cntN
 rw [List.range_succ, List.countP_append]
 cases h : row n <;> simp [List.countP_cons, h]
theorem cntN_off : ∀ (n : Nat) {k : Nat} (row : Nat → Bool), n ≤ k → cntN n (fun j => if j = k then true else row j) = cntN n row
 | 0, k, row, h => rfl
 | n + 1, k, row, h => by
  rw [cntN_succ, cntN_succ, cntN_off n row (by omega), if_neg (by omega)]
theorem cntN_set : ∀ (n : Nat) {k : Nat} {row : Nat → Bool}, k < n → row k = false → cntN n (fun j => if j = k then true else row j) + 1 = cntN n row
 | n + 1, k, row, h, hk => by
  rw [cntN_succ, cntN_succ]
  by_cases e : k = n
  ·subst e
   rw [cntN_off _ _ (Nat.le_refl _), if_pos rfl, hk]; rfl
  ·have := cntN_set n (k := k) (row := row) (by omega) hk
   rw [if_neg (fun q => e q.symm)]; omega
theorem cntN_zero : ∀ (n : Nat), cntN n (fun _ => false) = n
 | 0 => rfl
 | n + 1 => by rw [cntN_succ, cntN_zero n]; rfl
def idxI (l : List Int) (x : Int) : Int := if x ∈ l then ((l.idxOf x : Nat) : Int) else -1
theorem idxOf_at {x : Int} : ∀ {l : List Int} {i : Nat}, l[i]? = some x → x ∉ l.take i → l.idxOf x = i
 | y :: l, 0, h, _ => by
  simp only [List.getElem?_cons_zero, Option.some.injEq] at h
  subst h; simp
 | y :: l, i + 1, h, hn => by
  simp only [List.take_succ_cons, List.mem_cons, not_or] at hn
  have ih := idxOf_at (l := l) (i := i) (by simpa using h) hn.2
  rw [List.idxOf_cons, show (y == x) = false by simpa using fun e => hn.1 e.symm, ih]; rfl
theorem idxI_at {l : List Int} {x : Int} {i : Nat} (h : l[i]? = some x) (hn : x ∉ l.take i) : idxI l x = i := by
 unfold idxI
 rw [if_pos (List.mem_of_getElem? h), idxOf_at h hn]
theorem idxI_no {l : List Int} {x : Int} (h : x ∉ l.take l.length) : idxI l x = -1 := by
 unfold idxI
 rw [List.take_of_length_le (Nat.le_refl _)] at h
 rw [if_neg h]
def minI (x : Int) (l : List Int) : Int := l.foldl min x
theorem minI_snoc (x : Int) (l : List Int) (y : Int) : minI x (l ++ [y]) = min (minI x l) y := by unfold minI; rw [List.foldl_append]; rfl
theorem minI_mem : ∀ (l : List Int) (x : Int), minI x l ∈ x :: l
 | [], x => by simp [minI]
 | y :: l, x => by
  have ih := minI_mem l (min x y)
  have e : minI x (y :: l) = minI (min x y) l := rfl
  rw [e]
  rcases List.mem_cons.1 ih with h | h
  ·rw [h]
   by_cases q : x ≤ y
   ·rw [Int.min_eq_left q]; simp
   ·rw [Int.min_eq_right (by omega)]; simp
  ·simp [h]
end Go.Gr
namespace Go.Gr
noncomputable def selfN (l : List Ed) (n : Nat) : Nat := (List.range n).findIdx fun i => bhB l i i
theorem findIdx_range {p : Nat → Bool} {n i : Nat} (hi : i < n) (h : ∀ j, j < i → p j = false) (hp : p i = true) : (List.range n).findIdx p = i := by
 rw [List.findIdx_eq (by simpa using hi)]
 refine ⟨by simpa using hp, fun j hj => ?_⟩
 simpa using h j hj
theorem findIdx_none {p : Nat → Bool} {n : Nat} (h : ∀ j, j < n → p j = false) : (List.range n).findIdx p = n := by
 have := List.findIdx_eq_length_of_false (xs := List.range n) (p := p) fun x hx => by
  have := List.mem_range.1 hx
  simpa using h x this
 simpa using this
theorem findIdx_spec {p : Nat → Bool} {n : Nat} : (∀ j, j < n → p j = false) ∧ (List.range n).findIdx p = n ∨ (List.range n).findIdx p < n ∧ p ((List.range n).findIdx p) = true ∧ ∀ j, j < (List.range n).findIdx p → p j = false := by
 by_cases h : ∀ j, j < n → p j = false
 ·exact .inl ⟨h, findIdx_none h⟩
 ·right
  have hx : ∃ x ∈ List.range n, p x = true := by
   refine Classical.byContradiction fun hn => h fun j hj => ?_
   cases hp : p j with
   | false => rfl
   | true => exact absurd ⟨j, List.mem_range.2 hj, hp⟩ hn
  have hlt := List.findIdx_lt_length_of_exists hx
  rw [List.length_range] at hlt
  refine ⟨hlt, ?_, fun j hj => ?_⟩
  ·have := List.findIdx_getElem (xs := List.range n) (p := p) (w := by simpa using hlt)
   simpa using this
  ·have := List.not_of_lt_findIdx (xs := List.range n) (p := p) hj
   simpa using this
noncomputable def stepC (l : List Ed) (k : Nat) : Nat := match (nxU l k).find? fun t => bhB l t.toNat k with
 | some t => t.toNat
 | none => k
theorem stepC_at {l : List Ed} {k j : Nat} {t : Int} (h : (nxU l k)[j]? = some t) (hb : bhB l t.toNat k = true) (hn : ∀ x ∈ (nxU l k).take j, bhB l x.toNat k = false) : stepC l k = t.toNat := by
 have e : (nxU l k).find? (fun t => bhB l t.toNat k) = some t := by
  rw [List.find?_eq_some_iff_append]
  refine ⟨hb, (nxU l k).take j, (nxU l k).drop (j + 1), ?_, fun a ha => by rw [hn a ha]; rfl⟩
  have h1 := List.take_append_drop j (nxU l k)
  rw [List.drop_eq_getElem_cons (List.getElem?_eq_some_iff.1 h).1, (List.getElem?_eq_some_iff.1 h).2] at h1
  exact h1.symm
 unfold stepC; rw [e]
theorem stepC_none {l : List Ed} {k : Nat} (h : ∀ x ∈ nxU l k, bhB l x.toNat k = false) : stepC l k = k := by
 have e : (nxU l k).find? (fun t => bhB l t.toNat k) = none := by
  rw [List.find?_eq_none]
  intro x hx; rw [h x hx]; simp
 unfold stepC; rw [e]
theorem stepC_lt {n : Nat} {l : List Ed} (ok : okG n l) {k : Nat} (hk : k < n) : stepC l k < n := by
 unfold stepC
 split
 ·rename_i t ht
  have := ok.2.2.2 _ ((nxU_mem l k t).1 (List.mem_of_find?_eq_some ht))
  omega
 ·exact hk
noncomputable def walkC (l : List Ed) : Nat → List Int → Nat → List Int
 | 0, w, _ => w
 | f + 1, w, k => if (k : Int) ∈ w then w.drop (w.idxOf (k : Int)) else walkC l f (w ++ [(k : Int)]) (stepC l k)
def rotL : List Int → List Int
 | [] => []
 | x :: r => (x :: r).drop ((x :: r).idxOf (minI x r)) ++ (x :: r).take ((x :: r).idxOf (minI x r))
open Classical in
noncomputable def cycL (l : List Ed) (n : Nat) : List Int := if selfN l n = n then [] else rotL (walkC l (n + 1) [] (selfN l n))
theorem nodup_le : ∀ (n : Nat) (w : List Int), w.Nodup → (∀ x ∈ w, 0 ≤ x ∧ x < n) → w.length ≤ n
 | 0, w, _, h => by
  cases w with
  | nil => simp
  | cons x w => have := h x (by simp); omega
 | n + 1, w, hn, h => by
  by_cases hm : (n : Int) ∈ w
  ·have h1 := nodup_le n (w.erase n) (hn.erase _) fun x hx => by
    have h2 := h x (List.mem_of_mem_erase hx)
    have h3 : x ≠ n := fun e => by subst e; exact hn.not_mem_erase hx
    omega
   rw [List.length_erase_of_mem hm] at h1
   omega
  ·have := nodup_le n w hn fun x hx => by
    have h2 := h x hx
    have h3 : x ≠ n := fun e => by subst e; exact hm hx
    omega
   omega
end Go.Gr
namespace Go.Gr
def cnt (ks : List Int) (d p : Int → Bool) : Nat := ks.countP fun k => d k && p k
theorem cnt_cons (a : Int) (ks : List Int) (d p : Int → Bool) : cnt (a :: ks) d p = cnt ks d p + bif d a && p a then 1 else 0 := by
 unfold cnt
 rw [List.countP_cons]
 cases d a && p a <;> simp
theorem cnt_congr {ks : List Int} {d d' p : Int → Bool} (h : ∀ k ∈ ks, d k = d' k) : cnt ks d p = cnt ks d' p := by
 unfold cnt
 apply List.countP_congr
 intro k hk
 rw [h k hk]
theorem cnt_add : ∀ {ks : List Int} {d d' p : Int → Bool} {k0 : Int}, ks.Nodup → k0 ∈ ks → d k0 = false → d' k0 = true → (∀ x, x ≠ k0 → d' x = d x) → cnt ks d' p = cnt ks d p + bif p k0 then 1 else 0
 | a :: ks, d, d', p, k0, hn, hm, h1, h2, h3 => by
  rw [cnt_cons, cnt_cons]
  obtain ⟨ha, hn⟩ := List.nodup_cons.1 hn
  by_cases e : a = k0
  ·subst e
   rw [h1, h2, cnt_congr (d := d') (d' := d) fun k hk => h3 k fun e => ha (e ▸ hk)]
   simp
  ·rw [cnt_add hn (by rcases List.mem_cons.1 hm with h | h; exact absurd h.symm e; exact h) h1 h2 h3, h3 a e]
   omega
theorem cnt_none {ks : List Int} {d p : Int → Bool} (h : ∀ k, d k = false) : cnt ks d p = 0 := by
 unfold cnt
 rw [List.countP_eq_zero]
 intro k _
 rw [h k]; simp
def pN (l : List Ed) (i : Nat) (k : Int) : Bool := (nxU l k).contains (i : Int)
theorem pN_iff (l : List Ed) (i : Nat) (k : Int) : pN l i k = true ↔ (k, (i : Int)) ∈ l := by
 unfold pN; rw [List.contains_iff_mem, nxU_mem]
def ahD (l : List Ed) (d : Int → Bool) (i : Nat) : Int := ((cnt (keysR l []) d (pN l i) : Nat) : Int)
def ahU (l : List Ed) (u : List Int) (i : Nat) : Int := if (i : Int) ∈ u then -1 else ahD l (fun k => !u.contains k) i
theorem ahU_nil (l : List Ed) (d : Int → Bool) (hd : ∀ k ∈ keysR l [], d k = true) (i : Nat) : ahD l d i = ahU l [] i := by
 unfold ahU
 rw [if_neg (by simp)]
 unfold ahD
 rw [cnt_congr (d := d) (d' := fun k => !([] : List Int).contains k) fun k hk => by rw [hd k hk]; rfl]
theorem nx_key {l : List Ed} {k x : Int} (h : (k, x) ∈ l) : k ∈ keysR l [] := (keysR_mem l [] k).2 (.inr ⟨_, h, rfl⟩)
theorem ahU_zero {l : List Ed} {u : List Int} {i : Nat} : ahU l u i = 0 ↔ (i : Int) ∉ u ∧ ∀ k : Int, (k, (i : Int)) ∈ l → k ∈ u := by
 unfold ahU
 by_cases h : (i : Int) ∈ u
 ·rw [if_pos h]
  exact ⟨fun e => absurd e (by decide), fun e => absurd h e.1⟩
 ·rw [if_neg h]
  unfold ahD cnt
  constructor
  ·intro e
   refine ⟨h, fun k hk => ?_⟩
   have e : List.countP (fun k => (!u.contains k) && pN l i k) (keysR l []) = 0 := Int.natCast_eq_zero.1 e
   rw [List.countP_eq_zero] at e
   have := e k (nx_key hk)
   rw [(pN_iff l i k).2 hk, Bool.and_true] at this
   simpa using this
  ·rintro ⟨_, e⟩
   have : List.countP (fun k => (!u.contains k) && pN l i k) (keysR l []) = 0 := by
    rw [List.countP_eq_zero]
    intro k _ hk
    simp only [Bool.and_eq_true, pN_iff] at hk
    have := e k hk.2
    simp [this] at hk
   rw [this]; rfl
def pickN (l : List Ed) (n : Nat) (u : List Int) : Nat := (List.range n).findIdx fun i => ahU l u i == 0
def grd (l : List Ed) (n : Nat) : Nat → List Int → List Int
 | 0, u => u
 | f + 1, u => if pickN l n u < n then grd l n f (u ++ [(pickN l n u : Int)]) else u
def ordL (l : List Ed) (n : Nat) : List Int := grd l n (n + 1) []
structure UInv (l : List Ed) (n : Nat) (u : List Int) : Prop where
 nd : u.Nodup
 rg : ∀ x ∈ u, 0 ≤ x ∧ x < n
 cl : ∀ x ∈ u, ∀ k : Int, (k, x) ∈ l → k ∈ u
theorem UInv.nil (l : List Ed) (n : Nat) : UInv l n [] := ⟨by simp, by simp, by simp⟩
theorem UInv.len {l : List Ed} {n : Nat} {u : List Int} (h : UInv l n u) : u.length ≤ n := nodup_le n u h.nd h.rg
theorem UInv.snoc {l : List Ed} {n : Nat} {u : List Int} (h : UInv l n u) {i : Nat} (hi : i < n) (h0 : ahU l u i = 0) : UInv l n (u ++ [(i : Int)]) := by
 obtain ⟨h1, h2⟩ := ahU_zero.1 h0
 refine ⟨?_, fun x hx => ?_, fun x hx k hk => ?_⟩
 ·rw [List.nodup_append]
  refine ⟨h.nd, by simp, fun a ha b hb => ?_⟩
  simp only [List.mem_singleton] at hb
  subst hb
  exact fun e => h1 (e ▸ ha)
 ·rcases List.mem_append.1 hx with e | e
  ·exact h.rg x e
  ·simp only [List.mem_singleton] at e; subst e; omega
 ·rcases List.mem_append.1 hx with e | e
  ·exact List.mem_append_left _ (h.cl x e k hk)
  ·simp only [List.mem_singleton] at e; subst e
   exact List.mem_append_left _ (h2 k hk)
theorem ahU_snoc {l : List Ed} {n : Nat} {u : List Int} (h : UInv l n u) {a : Nat} (h0 : ahU l u a = 0) (i : Nat) : ahU l (u ++ [(a : Int)]) i = if i = a then -1 else ahU l u i - (if (i : Int) ∈ nxU l a then 1 else 0) := by
 obtain ⟨h1, h2⟩ := ahU_zero.1 h0
 by_cases hia : i = a
 ·subst hia
  rw [if_pos rfl]
  unfold ahU; rw [if_pos (by simp)]
 rw [if_neg hia]
 have hne : (i : Int) ≠ a := by omega
 by_cases hiu : (i : Int) ∈ u
 ·have hno : (i : Int) ∉ nxU l a := fun hm => h1 (h.cl _ hiu _ ((nxU_mem l a i).1 hm))
  rw [if_neg hno]
  unfold ahU; rw [if_pos (by simp [hiu]), if_pos hiu]; omega
 ·unfold ahU
  rw [if_neg (by simp [hiu, hne]), if_neg hiu]
  unfold ahD
  by_cases hk : (a : Int) ∈ keysR l []
  ·have := cnt_add (ks := keysR l []) (d := fun k => !(u ++ [(a : Int)]).contains k) (d' := fun k => !u.contains k) (p := pN l i) (k0 := a) (keysR_nodup _ _ (by simp)) hk (by simp) (by simpa using h1) fun x hx => by simp [hx]
   rw [this]
   by_cases hm : (i : Int) ∈ nxU l a
   ·have hp : pN l i a = true := by unfold pN; rw [List.contains_iff_mem]; exact hm
    rw [hp, if_pos hm]; simp only [cond_true]; omega
   ·have hp : pN l i a = false := by
     unfold pN
     rw [Bool.eq_false_iff]; intro e; rw [List.contains_iff_mem] at e; exact hm e
    rw [hp, if_neg hm]; simp only [cond_false]; omega
  ·have hm : (i : Int) ∉ nxU l a := fun hm => hk (nx_key ((nxU_mem l a i).1 hm))
   rw [if_neg hm]
   rw [cnt_congr (d := fun k => !(u ++ [(a : Int)]).contains k) (d' := fun k => !u.contains k) fun k hkk => by
    have : k ≠ a := fun e => hk (e ▸ hkk)
    simp [this]]
   omega
theorem nxU_nodup (l : List Ed) (k : Int) : (nxU l k).Nodup := (upI_up (nxR l k)).imp fun h => by omega
theorem idxOf_map {f : Nat → Int} {n : Nat} : idxI ((List.range n).map f) 0 = if (List.range n).findIdx (fun i => f i == 0) < n then (((List.range n).findIdx (fun i => f i == 0) : Nat) : Int) else -1 := by
 rcases findIdx_spec (p := fun i => f i == 0) (n := n) with ⟨h1, h2⟩ | ⟨h1, h2, h3⟩
 ·rw [h2, if_neg (by omega)]
  unfold idxI
  rw [if_neg]
  intro hm
  obtain ⟨j, hj, he⟩ := List.mem_map.1 hm
  have := h1 j (List.mem_range.1 hj)
  simp [he] at this
 ·rw [if_pos h1]
  generalize (List.range n).findIdx (fun i => f i == 0) = q at h1 h2 h3 ⊢
  refine idxI_at (i := q) ?_ ?_
  ·rw [List.getElem?_map, List.getElem?_range h1]
   have : f q = 0 := by simpa using h2
   rw [Option.map_some, this]
  ·intro hm
   rw [← List.map_take, List.take_range, Nat.min_eq_left (by omega)] at hm
   obtain ⟨j, hj, he⟩ := List.mem_map.1 hm
   have := h3 j (List.mem_range.1 hj)
   simp [he] at this
theorem ahD_le {n : Nat} {l : List Ed} (ok : okG n l) (d : Int → Bool) (i : Nat) : 0 ≤ ahD l d i ∧ ahD l d i ≤ n := by
 have h1 : cnt (keysR l []) d (pN l i) ≤ (keysR l []).length := List.countP_le_length
 have h2 : (keysR l []).length ≤ n := nodup_le n _ (keysR_nodup _ _ (by simp)) fun x hx => by
  rcases (keysR_mem l [] x).1 hx with h | ⟨e, he, rfl⟩
  ·cases h
  ·have := ok.2.2.2 e he; omega
 unfold ahD; omega
theorem ahU_le {n : Nat} {l : List Ed} (ok : okG n l) (u : List Int) (i : Nat) : -1 ≤ ahU l u i ∧ ahU l u i ≤ n := by
 unfold ahU
 split
 ·omega
 ·have := ahD_le ok (fun k => !u.contains k) i; omega
theorem ahD_add {l : List Ed} {d d' : Int → Bool} {k : Int} (hk : k ∈ keysR l []) (h1 : d k = false) (h2 : d' k = true) (h3 : ∀ x, x ≠ k → d' x = d x) (i : Nat) : ahD l d' i = ahD l d i + (if (i : Int) ∈ nxU l k then 1 else 0) := by
 unfold ahD
 rw [cnt_add (keysR_nodup _ _ (by simp)) hk h1 h2 h3]
 by_cases hm : (i : Int) ∈ nxU l k
 ·have hp : pN l i k = true := by unfold pN; rw [List.contains_iff_mem]; exact hm
  rw [hp, if_pos hm]; simp
 ·have hp : pN l i k = false := by
   unfold pN
   rw [Bool.eq_false_iff]; intro e; rw [List.contains_iff_mem] at e; exact hm e
  rw [hp, if_neg hm]; simp
theorem take_mem {l : List Int} (hn : l.Nodup) {j : Nat} {t : Int} (hj : l[j]? = some t) (x : Int) : x ∈ l.take (j + 1) ↔ x ∈ l.take j ∨ x = t := by
 rw [List.take_add_one, hj]; simp
theorem take_not {l : List Int} (hn : l.Nodup) {j : Nat} {t : Int} (hj : l[j]? = some t) : t ∉ l.take j := by
 intro hm
 obtain ⟨i, hi⟩ := List.getElem?_of_mem hm
 rw [List.getElem?_take] at hi
 split at hi
 ·have := (List.getElem?_inj (List.getElem?_eq_some_iff.1 hi).1 hn).1 (hi.trans hj.symm)
  omega
 ·cases hi
end Go.Gr
namespace Go.Gr
def rgB (l : List Ed) (i j : Nat) : Bool := l.any fun e => e.1 == (i : Int) && e.2 == (j : Int)
theorem rgB_iff (l : List Ed) (i j : Nat) : rgB l i j = true ↔ ((i : Int), (j : Int)) ∈ l := by
 unfold rgB
 rw [List.any_eq_true]
 constructor
 ·rintro ⟨⟨a, b⟩, h1, h2⟩
  simp only [Bool.and_eq_true, beq_iff_eq] at h2
  rw [← h2.1, ← h2.2]; exact h1
 ·exact fun h => ⟨_, h, by simp⟩
def wst (M : Nat → Nat → Bool) (k i j : Nat) : Bool := M i j || (M i k && M k j)
def wsN (l : List Ed) : Nat → Nat → Nat → Bool
 | 0 => rgB l
 | k + 1 => wst (wsN l k) k
theorem wst_iff (M : Nat → Nat → Bool) (k i j : Nat) : wst M k i j = true ↔ M i j = true ∨ M i k = true ∧ M k j = true := by
 unfold wst; rw [Bool.or_eq_true, Bool.and_eq_true]
theorem wsN_sound (l : List Ed) : ∀ (k i j : Nat), wsN l k i j = true → Bh l i j
 | 0, i, j, h => .one ((rgB_iff l i j).1 h)
 | k + 1, i, j, h => by
  rcases (wst_iff _ _ _ _).1 h with h | ⟨h1, h2⟩
  ·exact wsN_sound l k i j h
  ·exact (wsN_sound l k i k h1).trans (wsN_sound l k k j h2)
theorem wsN_right (l : List Ed) : ∀ (k i j : Nat), rgB l i j = true → wsN l k i j = true
 | 0, i, j, h => h
 | k + 1, i, j, h => (wst_iff _ _ _ _).2 (.inl (wsN_right l k i j h))
theorem wsN_trans (l : List Ed) : ∀ (k a i j : Nat), a < k → wsN l k i a = true → wsN l k a j = true → wsN l k i j = true
 | k + 1, a, i, j, ha, h1, h2 => by
  have ih := wsN_trans l k
  refine (wst_iff _ _ _ _).2 ?_
  by_cases hk : a = k
  ·subst hk
   right
   constructor
   ·rcases (wst_iff _ _ _ _).1 h1 with h | ⟨h, _⟩ <;> exact h
   ·rcases (wst_iff _ _ _ _).1 h2 with h | ⟨_, h⟩ <;> exact h
  ·have hak : a < k := by omega
   rcases (wst_iff _ _ _ _).1 h1 with p | ⟨p1, p2⟩
   ·rcases (wst_iff _ _ _ _).1 h2 with q | ⟨q1, q2⟩
    ·exact .inl (ih a i j hak p q)
    ·exact .inr ⟨ih a i k hak p q1, q2⟩
   ·rcases (wst_iff _ _ _ _).1 h2 with q | ⟨q1, q2⟩
    ·exact .inr ⟨p1, ih a k j hak p2 q⟩
    ·exact .inr ⟨p1, q2⟩
theorem wsN_bh {n : Nat} {l : List Ed} (ok : okG n l) (i j : Nat) : bhB l i j = wsN l n i j := by
 rw [Bool.eq_iff_iff, bhB_iff]
 refine ⟨fun h => ?_, wsN_sound l n i j⟩
 have all : ∀ m : Int, Bh l i m → wsN l n i m.toNat = true := by
  intro m hm
  induction hm with
  | @one k e =>
   have := ok.2.2.2 _ e
   refine wsN_right l n _ _ ((rgB_iff l i _).2 ?_)
   rw [Int.toNat_of_nonneg this.2.2.1]; exact e
  | @step k m hb e ih =>
   have h1 := hb.lt ok
   have h2 := ok.2.2.2 _ e
   refine wsN_trans l n k.toNat i _ (by omega) ih (wsN_right l n _ _ ((rgB_iff l _ _).2 ?_))
   rw [Int.toNat_of_nonneg h1.1, Int.toNat_of_nonneg h2.2.2.1]; exact e
 have := all _ h
 rwa [Int.toNat_natCast] at this
def nxB (l : List Ed) (n k : Nat) : List Int := ((List.range n).filter fun i => rgB l k i).map fun i => ((i : Nat) : Int)
theorem nxB_eq {n : Nat} {l : List Ed} (ok : okG n l) (k : Nat) : nxU l k = nxB l n k := by
 refine up_ext (upI_up _) ?_ fun x => ?_
 ·unfold nxB
  rw [List.pairwise_map]
  have := (List.pairwise_lt_range (n := n)).filter fun i => rgB l k i
  exact this.imp fun h => by omega
 ·rw [nxU_mem l k x]
  unfold nxB
  simp only [List.mem_map, List.mem_filter, List.mem_range, rgB_iff]
  constructor
  ·intro h
   have := ok.2.2.2 _ h
   refine ⟨x.toNat, ⟨by omega, ?_⟩, by omega⟩
   rw [Int.toNat_of_nonneg this.2.2.1]; exact h
  ·rintro ⟨i, ⟨_, h⟩, rfl⟩; exact h
def stepB (l : List Ed) (n k : Nat) : Nat := ((List.range n).find? fun i => rgB l k i && wsN l n i k).getD k
theorem stepB_eq {n : Nat} {l : List Ed} (ok : okG n l) (k : Nat) : stepC l k = stepB l n k := by
 unfold stepC stepB
 rw [nxB_eq ok]
 unfold nxB
 rw [List.find?_map, List.find?_filter]
 have e : (fun a => decide (rgB l k a = true ∧ ((fun t : Int => bhB l t.toNat k) ∘ fun i : Nat => (i : Int)) a = true)) = fun i => rgB l k i && wsN l n i k := by
  funext a
  rw [Bool.eq_iff_iff]
  simp only [Function.comp, Int.toNat_natCast, wsN_bh ok, decide_eq_true_eq, Bool.and_eq_true]
 rw [e]
 cases (List.range n).find? fun i => rgB l k i && wsN l n i k with
 | none => rfl
 | some i => simp
def walkB (l : List Ed) (n : Nat) : Nat → List Int → Nat → List Int
 | 0, w, _ => w
 | f + 1, w, k => if (k : Int) ∈ w then w.drop (w.idxOf (k : Int)) else walkB l n f (w ++ [(k : Int)]) (stepB l n k)
theorem walkB_eq {n : Nat} {l : List Ed} (ok : okG n l) : ∀ (f : Nat) (w : List Int) (k : Nat), walkC l f w k = walkB l n f w k
 | 0, w, k => rfl
 | f + 1, w, k => by rw [walkC, walkB, stepB_eq ok, walkB_eq ok f]
def selfB (l : List Ed) (n : Nat) : Nat := (List.range n).findIdx fun i => wsN l n i i
def cycB (l : List Ed) (n : Nat) : List Int := if selfB l n = n then [] else rotL (walkB l n (n + 1) [] (selfB l n))
theorem cycB_eq {n : Nat} {l : List Ed} (ok : okG n l) : cycL l n = cycB l n := by
 have e : selfN l n = selfB l n := by
  unfold selfN selfB
  congr 1; funext i; exact wsN_bh ok i i
 unfold cycL cycB
 rw [e, walkB_eq ok]
def freeB (l : List Ed) (u : List Int) (i : Nat) : Bool := !u.contains (i : Int) && l.all fun e => e.2 != (i : Int) || u.contains e.1
theorem freeB_iff (l : List Ed) (u : List Int) (i : Nat) : (ahU l u i == 0) = freeB l u i := by
 rw [Bool.eq_iff_iff, beq_iff_eq, ahU_zero]
 unfold freeB
 rw [Bool.and_eq_true, List.all_eq_true]
 refine and_congr (by simp) ⟨fun h e he => ?_, fun h k hk => ?_⟩
 ·rw [Bool.or_eq_true]
  by_cases q : e.2 = (i : Int)
  ·right
   rw [List.contains_iff_mem]
   exact h e.1 (by rw [← q]; exact he)
  ·left; simpa using q
 ·have := h _ hk
  simpa using this
def pickB (l : List Ed) (n : Nat) (u : List Int) : Nat := (List.range n).findIdx (freeB l u)
theorem pickB_eq (l : List Ed) (n : Nat) (u : List Int) : pickN l n u = pickB l n u := by
 unfold pickN pickB
 congr 1; funext i; exact freeB_iff l u i
def grdB (l : List Ed) (n : Nat) : Nat → List Int → List Int
 | 0, u => u
 | f + 1, u => if pickB l n u < n then grdB l n f (u ++ [(pickB l n u : Int)]) else u
theorem grdB_eq (l : List Ed) (n : Nat) : ∀ f u, grd l n f u = grdB l n f u
 | 0, u => rfl
 | f + 1, u => by rw [grd, grdB, pickB_eq, grdB_eq l n f]
theorem ordB_eq (l : List Ed) (n : Nat) : ordL l n = grdB l n (n + 1) [] := grdB_eq l n _ _
theorem alive_ord : ordL [(3, 1), (1, 0)] 4 = [2, 3, 1, 0] := by
 rw [ordB_eq]; decide
theorem alive_cyc : cycL [(0, 2), (2, 3), (3, 2), (3, 0)] 4 = [0, 2, 3] := by
 rw [cycB_eq (by decide)]; decide
end Go.Gr
namespace Go.Gr
structure CycOk (l : List Ed) (n : Nat) (c : List Int) : Prop where
 ne : c ≠ []
 nd : c.Nodup
 rg : ∀ x ∈ c, 0 ≤ x ∧ x < n
 self : ∀ x ∈ c, Bh l x x
 edge : ∀ j x y, j < c.length → c[j]? = some x → c[(j + 1) % c.length]? = some y → (x, y) ∈ l
end Go.Gr
namespace Go.Gr
def PInv (l : List Ed) (u : List Int) : Prop := ∀ j x, u[j]? = some x → ∀ k : Int, (k, x) ∈ l → k ∈ u.take j
theorem grd_spec {l : List Ed} {n : Nat} : ∀ (f : Nat) (u : List Int), UInv l n u → PInv l u → n < f + u.length →
  UInv l n (grd l n f u) ∧ PInv l (grd l n f u) ∧ ∀ i, i < n → ahU l (grd l n f u) i ≠ 0
 | 0, u, hu, _, hf => by
  have := hu.len
  omega
 | f + 1, u, hu, hp, hf => by
  rw [grd]
  have hps : pickN l n u = (List.range n).findIdx fun i => ahU l u i == 0 := rfl
  have hsp := findIdx_spec (p := fun i => ahU l u i == 0) (n := n)
  rw [← hps] at hsp
  rcases hsp with ⟨h1, h2⟩ | ⟨h1, h2, _⟩
  ·rw [if_neg (by omega)]
   exact ⟨hu, hp, fun i hi => by simpa using h1 i hi⟩
  ·rw [if_pos h1]
   have h0 : ahU l u (pickN l n u) = 0 := by simpa using h2
   refine grd_spec f _ (hu.snoc h1 h0) (fun j x hj k hk => ?_) (by simp; omega)
   by_cases hjl : j < u.length
   ·rw [List.getElem?_append_left hjl] at hj
    rw [List.take_append_of_le_length (by omega)]
    exact hp j x hj k hk
   ·rw [List.getElem?_append_right (by omega)] at hj
    have hj0 : j = u.length := by
     rcases Nat.lt_or_ge (j - u.length) 1 with h | h
     ·omega
     ·rw [List.getElem?_eq_none (by simpa using h)] at hj; cases hj
    subst hj0
    simp at hj
    subst hj
    rw [List.take_append_of_le_length (Nat.le_refl _), List.take_of_length_le (Nat.le_refl _)]
    exact (ahU_zero.1 h0).2 k hk
theorem ordL_spec (l : List Ed) (n : Nat) : UInv l n (ordL l n) ∧ PInv l (ordL l n) ∧ ∀ i, i < n → ahU l (ordL l n) i ≠ 0 :=
 grd_spec (n + 1) [] (UInv.nil l n) (fun j x hj => by simp at hj) (by simp)
theorem full_mem {n : Nat} {u : List Int} (hnd : u.Nodup) (hin : ∀ x ∈ u, 0 ≤ x ∧ x < n) (hl : u.length = n) {i : Int} (h0 : 0 ≤ i) (hi : i < n) : i ∈ u := by
 refine Classical.byContradiction fun hno => ?_
 have := nodup_le n (u ++ [i]) (by
  rw [List.nodup_append]
  refine ⟨hnd, by simp, fun a ha b hb => ?_⟩
  simp only [List.mem_singleton] at hb
  subst hb
  exact fun e => hno (e ▸ ha)) fun x hx => by
   rcases List.mem_append.1 hx with h | h
   ·exact hin x h
   ·simp only [List.mem_singleton] at h; subst h; omega
 simp at this; omega
theorem least_of {l : List Ed} (hno : ∀ x : Int, ¬ Bh l x x) : ∀ (c : Nat) (R : List Int) (x : Int), x ∈ R → (R.countP fun y => bhB l y.toNat x.toNat) ≤ c → (∀ y ∈ R, 0 ≤ y) → ∃ y ∈ R, ∀ k ∈ R, (k, y) ∉ l
 | c, R, x, hx, hc, h0 => by
  by_cases h : ∀ k ∈ R, (k, x) ∉ l
  ·exact ⟨x, hx, h⟩
  ·have hex : ∃ k ∈ R, (k, x) ∈ l := by
    refine Classical.byContradiction fun hn => h fun k hk e => hn ⟨k, hk, e⟩
   obtain ⟨k, hk, e⟩ := hex
   have hk0 := h0 k hk
   have hx0 := h0 x hx
   have hlt : (R.countP fun y => bhB l y.toNat k.toNat) < (R.countP fun y => bhB l y.toNat x.toNat) := by
    have hsub : ∀ y ∈ R, bhB l y.toNat k.toNat = true → bhB l y.toNat x.toNat = true := fun y hy q => by
     have q := (bhB_iff l _ _).1 q
     refine (bhB_iff l _ _).2 ?_
     rw [Int.toNat_of_nonneg hk0] at q
     rw [Int.toNat_of_nonneg hx0]
     exact .step q e
    have hkx : bhB l k.toNat x.toNat = true := (bhB_iff l _ _).2 (by rw [Int.toNat_of_nonneg hk0, Int.toNat_of_nonneg hx0]; exact .one e)
    have hkk : bhB l k.toNat k.toNat = false := by
     rw [Bool.eq_false_iff]
     intro q
     have q := (bhB_iff l _ _).1 q
     exact hno _ q
    clear hc h
    induction R with
    | nil => cases hk
    | cons r R ih =>
     rw [List.countP_cons, List.countP_cons]
     have hle : (R.countP fun y => bhB l y.toNat k.toNat) ≤ (R.countP fun y => bhB l y.toNat x.toNat) := List.countP_mono_left fun y hy => hsub y (by simp [hy])
     by_cases hrk : k = r
     ·subst hrk
      rw [hkk, hkx]; simp; omega
     ·have hk' : k ∈ R := by rcases List.mem_cons.1 hk with q | q; exact absurd q hrk; exact q
      have h2 : (R.countP fun y => bhB l y.toNat k.toNat) < (R.countP fun y => bhB l y.toNat x.toNat) := by
       have key : ∀ S : List Int, k ∈ S → (∀ y ∈ S, bhB l y.toNat k.toNat = true → bhB l y.toNat x.toNat = true) → (S.countP fun y => bhB l y.toNat k.toNat) < (S.countP fun y => bhB l y.toNat x.toNat) := by
        intro S
        induction S with
        | nil => intro h; cases h
        | cons s S ih =>
         intro hk hs
         rw [List.countP_cons, List.countP_cons]
         have hle : (S.countP fun y => bhB l y.toNat k.toNat) ≤ (S.countP fun y => bhB l y.toNat x.toNat) := List.countP_mono_left fun y hy => hs y (by simp [hy])
         by_cases hsk : k = s
         ·subst hsk
          rw [hkk, hkx]; simp; omega
         ·have := ih (by rcases List.mem_cons.1 hk with q | q; exact absurd q hsk; exact q) fun y hy => hs y (by simp [hy])
          have h3 := hs s (by simp)
          cases h4 : bhB l s.toNat k.toNat with
          | false => simp only [Bool.false_eq_true, if_false]; split <;> omega
          | true => rw [h3 h4]; simp; omega
       exact key R hk' fun y hy => hsub y (by simp [hy])
      have h3 := hsub r (by simp)
      cases h4 : bhB l r.toNat k.toNat with
      | false => simp only [Bool.false_eq_true, if_false]; split <;> omega
      | true => rw [h3 h4]; simp; omega
   cases c with
   | zero => omega
   | succ c => exact least_of hno c R k hk (by omega) h0
theorem sub_len : ∀ (a b : List Int), a.Nodup → (∀ x ∈ a, x ∈ b) → a.length ≤ b.length
 | [], b, _, _ => Nat.zero_le _
 | x :: a, b, hn, h => by
  obtain ⟨h1, h2⟩ := List.nodup_cons.1 hn
  have hx := h x (by simp)
  have ih := sub_len a (b.erase x) h2 fun y hy => (List.mem_erase_of_ne fun e => h1 (by rw [← e]; exact hy)).2 (h y (by simp [hy]))
  rw [List.length_erase_of_mem hx] at ih
  have := List.length_pos_of_mem hx
  simp only [List.length_cons]; omega
theorem short_some {n : Nat} {l : List Ed} (ok : okG n l) (hl : (ordL l n).length < n) : ∃ x : Int, Bh l x x := by
 refine Classical.byContradiction fun hn => ?_
 have hno : ∀ x : Int, ¬ Bh l x x := fun x h => hn ⟨x, h⟩
 obtain ⟨hu, hp, hf⟩ := ordL_spec l n
 let R := ((List.range n).map fun i => ((i : Nat) : Int)).filter fun x => !(ordL l n).contains x
 have hR : ∀ x, x ∈ R ↔ (0 ≤ x ∧ x < n) ∧ x ∉ ordL l n := fun x => by
  simp only [R, List.mem_filter, List.mem_map, List.mem_range]
  constructor
  ·rintro ⟨⟨i, hi, rfl⟩, h⟩
   exact ⟨by omega, by simpa using h⟩
  ·rintro ⟨h1, h2⟩
   exact ⟨⟨x.toNat, by omega, by omega⟩, by simpa using h2⟩
 have hex : ∃ x, x ∈ R := by
  refine Classical.byContradiction fun hnx => ?_
  have hall : ∀ i : Int, 0 ≤ i → i < n → i ∈ ordL l n := fun i h0 h1 => by
   refine Classical.byContradiction fun h => hnx ⟨i, (hR i).2 ⟨⟨h0, h1⟩, h⟩⟩
  have h2 : ((List.range n).map fun i => ((i : Nat) : Int)).length ≤ (ordL l n).length := by
   refine sub_len _ _ ?_ ?_
   ·rw [List.nodup_iff_pairwise_ne, List.pairwise_map]
    exact (List.pairwise_lt_range (n := n)).imp fun h => by omega
   ·intro x hx
    obtain ⟨i, hi, rfl⟩ := List.mem_map.1 hx
    exact hall _ (by omega) (by have := List.mem_range.1 hi; omega)
  simp at h2
  omega
 obtain ⟨x, hx⟩ := hex
 obtain ⟨y, hy, hy2⟩ := least_of hno _ R x hx (Nat.le_refl _) fun y hy => ((hR y).1 hy).1.1
 have hyr := (hR y).1 hy
 refine hf y.toNat (by omega) (ahU_zero.2 ?_)
 rw [Int.toNat_of_nonneg hyr.1.1]
 refine ⟨hyr.2, fun k hk => ?_⟩
 have hkr := ok.2.2.2 _ hk
 refine Classical.byContradiction fun hku => ?_
 exact hy2 k ((hR k).2 ⟨⟨hkr.1, hkr.2.1⟩, hku⟩) hk
end Go.Gr
namespace Go.Hs
open Go.Gr
structure Tm (s : St) : Prop where
 pt : ∀ (i : Nat) (x : At), s.out[i]? = some x → (x.point = -1 ∨ x.frm ≤ x.point) ∧ (x.to = -1 ∨ x.point ≤ x.to) ∧ (x.com = true → 0 ≤ x.to)
 seq : ∀ (i j : Nat) (x y : At), i < j → s.out[i]? = some x → s.out[j]? = some y → x.frm < y.frm ∧ (x.core = y.core → 0 ≤ x.to ∧ x.to < y.frm)
theorem hear_tm (x : At) (n : Int) (e : Ev) : ((hearA x n e).point = x.point ∨ (hearA x n e).point = n) ∧ (((hearA x n e).to = x.to ∧ (hearA x n e).com = x.com) ∨ (hearA x n e).to = n) := by
 unfold hearA loadA
 repeat' split
 all_goals simp
theorem Tm.step {h : List Ev} {s s' : St} {n : Nat} {e : Ev} (t : Tm s) (ok : Ok s n) (hs : stepS s n e = some s') : Tm s' := by
 unfold stepS at hs
 split at hs
 case isFalse => cases hs
 split at hs
 ·injection hs with hs; subst hs; exact t
 ·cases ho : opGet s.op e.core with
  | none =>
   rw [ho] at hs; simp only at hs; injection hs with hs; subst hs
   have old : ∀ {i : Nat} {x : At}, (s.out ++ [newA e n])[i]? = some x → s.out[i]? = some x ∨ (i = s.out.length ∧ x = newA e n) := fun {i} {x} hi => by
    by_cases hl : i < s.out.length
    ·rw [List.getElem?_append_left hl] at hi; exact .inl hi
    ·rw [List.getElem?_append_right (by omega)] at hi
     have hlt := (List.getElem?_eq_some_iff.1 hi).1
     simp only [List.length_singleton] at hlt
     have hm := List.mem_of_getElem? hi
     simp only [List.mem_singleton] at hm
     exact .inr ⟨by omega, hm⟩
   refine ⟨fun i x hi => ?_, fun i j x y hij hi hj => ?_⟩
   ·rcases old hi with h1 | ⟨_, rfl⟩
    ·exact t.pt i x h1
    ·exact ⟨.inl rfl, .inl rfl, fun h => by simp [newA] at h⟩
   ·rcases old hj with h1 | ⟨rfl, rfl⟩
    ·have hjl := (List.getElem?_eq_some_iff.1 h1).1
     rcases old hi with h2 | ⟨h2, _⟩
     ·exact t.seq i j x y hij h2 h1
     ·omega
    ·rcases old hi with h2 | ⟨h2, _⟩
     ·obtain ⟨r1, r2, r3, r4, r5, r6, r7, r8, r9, r10⟩ := ok.rng x (List.mem_of_getElem? h2)
      refine ⟨r6, fun hc => ?_⟩
      have hne : x.to ≠ -1 := fun e1 => by
       have := opGet_none ho _ (ok.shut i x h2 e1)
       exact this hc
      exact ⟨by omega, r8⟩
     ·omega
  | some q =>
   rw [ho] at hs; simp only at hs; injection hs with hs; subst hs
   obtain ⟨y, y1, y2, y3, y4, y5, y6⟩ := ok.cur ho
   rw [y2]
   obtain ⟨c1, _, _, _, c5⟩ := hear_core y n e
   obtain ⟨t1, t2⟩ := hear_tm y n e
   obtain ⟨r1, r2, r3, r4, r5, r6, r7, r8, r9, r10⟩ := ok.rng y (List.mem_of_getElem? y1)
   obtain ⟨p1, p2, p3⟩ := t.pt q y y1
   generalize hearA y n e = y' at c1 c5 t1 t2
   have old : ∀ {i : Nat} {x : At}, (s.out.set q y')[i]? = some x → (i ≠ q ∧ s.out[i]? = some x) ∨ (i = q ∧ x = y') := fun {i} {x} hi => by
    by_cases hq : i = q
    ·subst hq
     rw [List.getElem?_set] at hi
     simp [y6] at hi
     exact .inr ⟨rfl, hi.symm⟩
    ·rw [List.getElem?_set_ne (fun e => hq e.symm)] at hi
     exact .inl ⟨hq, hi⟩
   refine ⟨fun i x hi => ?_, fun i j x z hij hi hj => ?_⟩
   ·rcases old hi with ⟨_, h1⟩ | ⟨rfl, rfl⟩
    ·exact t.pt i x h1
    ·refine ⟨?_, ?_, fun hc => ?_⟩
     ·rcases t1 with h1 | h1
      ·rw [h1, c5]; exact p1
      ·right; rw [h1, c5]; omega
     ·rcases t2 with ⟨h2, _⟩ | h2
      ·left; rw [h2]; exact y5
      ·right
       rcases t1 with h1 | h1 <;> omega
     ·rcases t2 with ⟨_, h3⟩ | h2
      ·rw [h3] at hc
       have := p3 hc
       omega
      ·omega
   ·rcases old hi with ⟨hiq, h1⟩ | ⟨rfl, rfl⟩
    ·rcases old hj with ⟨hjq, h2⟩ | ⟨rfl, rfl⟩
     ·exact t.seq i j x z hij h1 h2
     ·rw [c1, c5]; exact t.seq i j x y hij h1 y1
    ·rcases old hj with ⟨hjq, h2⟩ | ⟨rfl, rfl⟩
     ·have := t.seq i j y z hij y1 h2
      rw [c1, c5]
      refine ⟨this.1, fun hc => ?_⟩
      have := this.2 hc
      omega
     ·omega
theorem sp_tm {h : List Ev} : ∀ {n : Nat} {s : St}, sp h n = some s → Tm s
 | 0, s, hs => by simp only [sp] at hs; injection hs with hs; subst hs; exact ⟨by simp, by simp⟩
 | n + 1, s, hs => by
  simp only [sp] at hs
  split at hs
  ·rename_i s0 e h1 h2
   exact (sp_tm h1).step (h := h) (sp_ok h1) hs
  ·cases hs
structure TmL (l : List At) : Prop where
 pt : ∀ x ∈ l, 0 ≤ x.point ∧ x.frm ≤ x.point ∧ x.point ≤ x.to
 seq : l.Pairwise fun x y => x.frm < y.frm ∧ (x.core = y.core → x.to < y.frm)
 ne : l.Pairwise fun x y => x.point ≠ y.point
theorem tmL_of {h : List Ev} {l0 : List At} (hs : splitL h = some l0) : TmL (comL l0) := by
 unfold splitL at hs
 cases hq : sp h h.length with
 | none => rw [hq] at hs; cases hs
 | some s =>
  rw [hq] at hs; injection hs with hs
  have hs : s.out = l0 := hs
  subst hs
  have t := sp_tm hq
  refine ⟨fun x hx => ?_, ?_, ?_⟩
  ·obtain ⟨h1, h2⟩ := List.mem_filter.1 hx
   obtain ⟨i, hi⟩ := List.getElem?_of_mem h1
   obtain ⟨p1, p2, p3⟩ := t.pt i x hi
   have ho : outB x = false := by simpa using h2
   unfold outB at ho
   simp only [Bool.or_eq_false_iff, Bool.not_eq_false', decide_eq_false_iff_not] at ho
   have := p3 ho.1
   omega
  ·refine List.Pairwise.filter _ (List.pairwise_iff_getElem.2 fun i j hi hj hij => ?_)
   have := t.seq i j _ _ hij (List.getElem?_eq_getElem hi) (List.getElem?_eq_getElem hj)
   exact ⟨this.1, fun hc => (this.2 hc).2⟩
  ·have h0 : s.out.Pairwise fun x y => 0 ≤ x.point → x.point ≠ y.point := List.pairwise_iff_getElem.2 fun i j hi hj hij h0 he => by
    obtain ⟨k, hk⟩ : ∃ k : Nat, s.out[i].point = k := ⟨s.out[i].point.toNat, by omega⟩
    have := (sp_ats hq).2 i j _ _ k (List.getElem?_eq_getElem hi) (List.getElem?_eq_getElem hj) hk (by rw [← he]; exact hk)
    omega
   have h1 := List.Pairwise.filter (fun x => !outB x) h0
   refine h1.imp_of_mem ?_
   intro x y hx _ hxy
   refine hxy ?_
   have ho := (List.mem_filter.1 hx).2
   unfold outB at ho
   simp only [Bool.not_or, Bool.not_not, Bool.and_eq_true, Bool.not_eq_true', decide_eq_false_iff_not] at ho
   omega
theorem getD_at {l : List At} {i : Nat} (hi : i < l.length) : l.getD i default = l[i] := by
 rw [List.getD_eq_getElem?_getD, List.getElem?_eq_getElem hi]; rfl
theorem ed_lt {l : List At} (t : TmL l) {i k : Nat} (hi : i < l.length) (hk : k < l.length) (h : edB l i k = true) : l[i].point < l[k].point := by
 unfold edB at h
 rw [getD_at hi, getD_at hk, Bool.and_eq_true] at h
 obtain ⟨hne, h⟩ := h
 have hne : i ≠ k := by simpa using hne
 obtain ⟨x1, x2, x3⟩ := t.pt _ (List.getElem_mem hi)
 obtain ⟨y1, y2, y3⟩ := t.pt _ (List.getElem_mem hk)
 unfold edC at h
 simp only [Bool.or_eq_true, Bool.and_eq_true, decide_eq_true_eq] at h
 rcases h with (h | ⟨h1, h2⟩) | ⟨h1, _⟩
 ·omega
 ·have hs := List.pairwise_iff_getElem.1 t.seq
  rcases Nat.lt_trichotomy i k with h3 | h3 | h3
  ·have := (hs i k hi hk h3).2 h1
   omega
  ·exact absurd h3 hne
  ·have := (hs k i hk hi h3).1
   omega
 ·exact h1
theorem edRow_mem {l : List At} {i n : Nat} {e : Ed} : e ∈ edRow l i n ↔ ∃ k : Nat, k < n ∧ edB l i k = true ∧ e = ((i : Int), (k : Int)) := by
 unfold edRow
 simp only [List.mem_map, List.mem_filter, List.mem_range]
 constructor
 ·rintro ⟨k, ⟨h1, h2⟩, rfl⟩; exact ⟨k, h1, h2, rfl⟩
 ·rintro ⟨k, h1, h2, rfl⟩; exact ⟨k, ⟨h1, h2⟩, rfl⟩
theorem edAll_mem {l : List At} {n : Nat} {e : Ed} : e ∈ edAll l n ↔ ∃ i k : Nat, i < n ∧ k < l.length ∧ edB l i k = true ∧ e = ((i : Int), (k : Int)) := by
 unfold edAll
 simp only [List.mem_flatMap, List.mem_range, edRow_mem]
 constructor
 ·rintro ⟨i, h1, k, h2, h3, h4⟩; exact ⟨i, k, h1, h2, h3, h4⟩
 ·rintro ⟨i, k, h1, h2, h3, h4⟩; exact ⟨i, h1, k, h2, h3, h4⟩
theorem edL_mem {l : List At} {i k : Nat} : ((i : Int), (k : Int)) ∈ edL l ↔ i < l.length ∧ k < l.length ∧ edB l i k = true := by
 unfold edL
 rw [edAll_mem]
 constructor
 ·rintro ⟨i', k', h1, h2, h3, h4⟩
  injection h4 with e1 e2
  have e1 : i = i' := by omega
  have e2 : k = k' := by omega
  subst e1; subst e2
  exact ⟨h1, h2, h3⟩
 ·rintro ⟨h1, h2, h3⟩; exact ⟨i, k, h1, h2, h3, rfl⟩
theorem edRow_nodup (l : List At) (i n : Nat) : (edRow l i n).Nodup := by
 unfold edRow
 rw [List.Nodup, List.pairwise_map]
 refine (List.Pairwise.filter _ List.nodup_range).imp ?_
 intro a b hab e
 injection e with _ e
 omega
theorem edAll_nodup (l : List At) : ∀ n, (edAll l n).Nodup
 | 0 => by simp [edAll]
 | n + 1 => by
  rw [edAll_succ, List.nodup_append]
  refine ⟨edAll_nodup l n, edRow_nodup l n _, fun a ha b hb e => ?_⟩
  obtain ⟨i, k, h1, _, _, rfl⟩ := edAll_mem.1 ha
  obtain ⟨k', _, _, rfl⟩ := edRow_mem.1 hb
  injection e with e1 _
  omega
theorem edL_few {l : List At} (t : TmL l) (hl : l.length ≤ 200) : (edL l).length ≤ 20000 := by
 have hE := edAll_nodup l l.length
 have hm : ∀ e ∈ edL l, ∃ i k : Nat, i < l.length ∧ k < l.length ∧ edB l i k = true ∧ e = ((i : Int), (k : Int)) := fun e he => edAll_mem.1 he
 have h1 : ((edL l).map fun e : Ed => e.1 * 200 + e.2).Nodup := by
  rw [List.Nodup, List.pairwise_map]
  refine List.Pairwise.imp_of_mem (R := (· ≠ ·)) ?_ hE
  intro a b ha hb hab e
  obtain ⟨i, k, h1, h2, _, rfl⟩ := hm a ha
  obtain ⟨i', k', h3, h4, _, rfl⟩ := hm b hb
  simp only at e
  have e1 : i = i' := by omega
  have e2 : k = k' := by omega
  subst e1; subst e2; exact hab rfl
 have h2 : ((edL l).map fun e : Ed => e.2 * 200 + e.1).Nodup := by
  rw [List.Nodup, List.pairwise_map]
  refine List.Pairwise.imp_of_mem (R := (· ≠ ·)) ?_ hE
  intro a b ha hb hab e
  obtain ⟨i, k, h1, h2, _, rfl⟩ := hm a ha
  obtain ⟨i', k', h3, h4, _, rfl⟩ := hm b hb
  simp only at e
  have e1 : i = i' := by omega
  have e2 : k = k' := by omega
  subst e1; subst e2; exact hab rfl
 have h3 : (((edL l).map fun e : Ed => e.1 * 200 + e.2) ++ ((edL l).map fun e : Ed => e.2 * 200 + e.1)).Nodup := by
  rw [List.nodup_append]
  refine ⟨h1, h2, fun x hx y hy e => ?_⟩
  obtain ⟨a, ha, rfl⟩ := List.mem_map.1 hx
  obtain ⟨b, hb, rfl⟩ := List.mem_map.1 hy
  obtain ⟨i, k, g1, g2, g3, rfl⟩ := hm a ha
  obtain ⟨i', k', g4, g5, g6, rfl⟩ := hm b hb
  simp only at e
  have e1 : i = k' := by omega
  have e2 : k = i' := by omega
  subst e1; subst e2
  have := ed_lt t g1 g2 g3
  have := ed_lt t g4 g5 g6
  omega
 have := nodup_le 40000 _ h3 (fun x hx => by
  rcases List.mem_append.1 hx with hx | hx
  ·obtain ⟨a, ha, rfl⟩ := List.mem_map.1 hx
   obtain ⟨i, k, g1, g2, g3, rfl⟩ := hm a ha
   simp only; omega
  ·obtain ⟨a, ha, rfl⟩ := List.mem_map.1 hx
   obtain ⟨i, k, g1, g2, g3, rfl⟩ := hm a ha
   simp only; omega)
 simp only [List.length_append, List.length_map] at this
 omega
theorem edL_ok {l : List At} (t : TmL l) (hl : l.length ≤ 200) : okG l.length (edL l) := by
 refine ⟨by omega, by omega, edL_few t hl, fun e he => ?_⟩
 obtain ⟨i, k, g1, g2, g3, rfl⟩ := edAll_mem.1 he
 simp only; omega
theorem bh_lt {l : List At} (t : TmL l) {i k : Int} (h : Bh (edL l) i k) : ∃ a b : Nat, i = a ∧ k = b ∧ ∃ (ha : a < l.length) (hb : b < l.length), l[a].point < l[b].point := by
 induction h with
 | one he =>
  obtain ⟨a, b, h1, h2, h3, h4⟩ := edAll_mem.1 he
  injection h4 with e1 e2
  exact ⟨a, b, e1, e2, h1, h2, ed_lt t h1 h2 h3⟩
 | step _ he ih =>
  obtain ⟨a, b, e1, e2, ha, hb, hlt⟩ := ih
  obtain ⟨a', b', h1, h2, h3, h4⟩ := edAll_mem.1 he
  injection h4 with e3 e4
  have e5 : b = a' := by omega
  subst e5
  have := ed_lt t h1 h2 h3
  exact ⟨a, b', e1, e4, ha, h2, by omega⟩
theorem ord_full {l : List At} (t : TmL l) (hl : l.length ≤ 200) : (ordL (edL l) l.length).length = l.length := by
 have ok := edL_ok t hl
 have h1 := (ordL_spec (edL l) l.length).1.len
 by_cases hlt : (ordL (edL l) l.length).length < l.length
 ·obtain ⟨x, hx⟩ := short_some ok hlt
  obtain ⟨a, b, e1, e2, ha, hb, hp⟩ := bh_lt t hx
  have : a = b := by omega
  subst this
  omega
 ·omega
theorem ord_okO {l : List At} (t : TmL l) (hl : l.length ≤ 200) : okO (ordL (edL l) l.length) l.length := by
 obtain ⟨u, _, _⟩ := ordL_spec (edL l) l.length
 exact ⟨ord_full t hl, u.nd, u.rg⟩
end Go.Hs
namespace Go.Hs
open Go.Gr
theorem lastV_filter (w v : Int) (ss : List Pr) : lastV w v ss = lastV w v (ss.filter fun s => s.1 == w) := by
 induction ss generalizing v with
 | nil => rfl
 | cons s ss ih =>
  have e : ∀ v s (ss : List Pr), lastV w v (s :: ss) = lastV w (if s.1 = w then s.2 else v) ss := fun _ _ _ => rfl
  by_cases h : s.1 = w
  ·have hf : (s :: ss).filter (fun s => s.1 == w) = s :: ss.filter fun s => s.1 == w := List.filter_cons_of_pos (by simpa using h)
   rw [hf, e, e, if_pos h]
   exact ih _
  ·have hf : (s :: ss).filter (fun s => s.1 == w) = ss.filter fun s => s.1 == w := List.filter_cons_of_neg (by simpa using h)
   rw [hf, e, if_neg h]
   exact ih _
def stB (w : Int) (x : At) : Bool := x.stores.any fun s => s.1 == w
theorem flat_filter (w : Int) : ∀ X : List At, (X.flatMap (·.stores)).filter (fun s => s.1 == w) = (X.filter (stB w)).flatMap fun x => x.stores.filter fun s => s.1 == w
 | [] => rfl
 | x :: X => by
  rw [List.flatMap_cons, List.filter_append, flat_filter w X]
  by_cases h : stB w x = true
  ·rw [List.filter_cons_of_pos h, List.flatMap_cons]
  ·rw [List.filter_cons_of_neg h]
   have : x.stores.filter (fun s => s.1 == w) = [] := by
    rw [List.filter_eq_nil_iff]
    intro s hs hw
    exact h (List.any_eq_true.2 ⟨s, hs, hw⟩)
   rw [this]; rfl
theorem up_eq : ∀ {X Y : List At}, (X.Pairwise fun x y => x.point < y.point) → (Y.Pairwise fun x y => x.point < y.point) → (∀ x, x ∈ X ↔ x ∈ Y) → X = Y
 | [], [], _, _, _ => rfl
 | [], y :: Y, _, _, h => by simpa using (h y).2
 | x :: X, [], _, _, h => by simpa using (h x).1
 | x :: X, y :: Y, hX, hY, h => by
  obtain ⟨x1, x2⟩ := List.pairwise_cons.1 hX
  obtain ⟨y1, y2⟩ := List.pairwise_cons.1 hY
  have hxy : x = y := by
   rcases List.mem_cons.1 ((h x).1 (by simp)) with e | hx
   ·exact e
   ·rcases List.mem_cons.1 ((h y).2 (by simp)) with e | hy
    ·exact e.symm
    ·have := x1 _ hy
     have := y1 _ hx
     omega
  subst hxy
  have : X = Y := by
   refine up_eq x2 y2 fun z => ?_
   have hz := h z
   simp only [List.mem_cons] at hz
   constructor
   ·intro hm
    rcases hz.1 (.inr hm) with e | e
    ·subst e; have := x1 _ hm; omega
    ·exact e
   ·intro hm
    rcases hz.2 (.inr hm) with e | e
    ·subst e; have := y1 _ hm; omega
    ·exact e
  rw [this]
def hapL (l : List At) (n : Nat) : List At := (List.range n).filterMap fun k => (ptAt l k).filter fun x => x.com
theorem hapL_mem {l : List At} {n : Nat} {x : At} : x ∈ hapL l n ↔ ∃ k, k < n ∧ ptAt l k = some x ∧ x.com = true := by
 unfold hapL
 simp only [List.mem_filterMap, List.mem_range, Option.filter_eq_some_iff]
theorem hapL_up (l : List At) (n : Nat) : (hapL l n).Pairwise fun x y => x.point < y.point := by
 unfold hapL
 rw [List.pairwise_filterMap]
 refine List.pairwise_lt_range.imp ?_
 intro a b hab x hx y hy
 simp only [Option.filter_eq_some_iff] at hx hy
 have h1 := (ptAt_some hx.1).2
 have h2 := (ptAt_some hy.1).2
 omega
theorem memTo_hap {h : List Ev} {l : List At} (m : List Pr) (hno : h.any plainB = false) : ∀ n, n ≤ h.length → memTo h l m n = putAll m ((hapL l n).flatMap (·.stores))
 | 0, _ => rfl
 | n + 1, hn => by
  have ih := memTo_hap (l := l) m hno n (by omega)
  have hp : plainB (evA h n) = false := by
   have := List.any_eq_false.1 hno (evA h n) (by rw [evA_lt (by omega)]; exact List.getElem_mem _)
   simpa using this
  have hs : hapL l (n + 1) = hapL l n ++ ((ptAt l n).filter fun x => x.com).toList := by
   unfold hapL
   rw [List.range_succ, List.filterMap_append]
   congr 1
  simp only [memTo]
  rw [hs, List.flatMap_append, putAll_app, ← ih]
  unfold hapB
  rw [hp, Bool.or_false]
  cases hx : ptAt l n with
  | none => rfl
  | some x =>
   simp only [Option.isSome_some, if_true, goesM]
   cases hc : x.com with
   | true =>
    have : (Option.filter (fun x : At => x.com) (some x)) = some x := by simp [Option.filter, hc]
    rw [this]
    simp [List.flatMap]
   | false =>
    have : (Option.filter (fun x : At => x.com) (some x)) = none := by simp [Option.filter, hc]
    rw [this]
    simp [putAll]
theorem exM_of (l : List At) : ∀ (o : List Int) (m : List Pr), (∀ (i : Nat) (hi : i < o.length), ∀ p ∈ (l.getD o[i].toNat default).loads, memF (putAll m (stF l o i)) p.1 = p.2) → exM l m o = true
 | [], _, _ => rfl
 | n :: o, m, h => by
  simp only [exM]
  rw [Bool.and_eq_true]
  refine ⟨List.all_eq_true.2 fun p hp => ?_, exM_of l o _ fun i hi p hp => ?_⟩
  ·have h0 := h 0 (by simp) p hp
   have e0 : memF m p.1 = p.2 := h0
   rw [e0]; simp
  ·have := h (i + 1) (by simpa using hi) p (by simpa using hp)
   rw [← this]
   have e : stF l (n :: o) (i + 1) = (l.getD n.toNat default).stores ++ stF l o i := by
    unfold stF; rw [List.take_succ_cons, List.flatMap_cons]
   rw [e, putAll_app]
theorem ord_pair {E : List Ed} {a : List Int} (hp : PInv E a) (hnd : a.Nodup) : ∀ (u v : Nat) (hu : u < a.length) (hv : v < a.length), u < v → (a[v], a[u]) ∉ E := by
 intro u v hu hv huv he
 have h1 := hp u _ (List.getElem?_eq_getElem hu) _ he
 obtain ⟨q, hq, e⟩ := List.mem_iff_getElem.1 h1
 rw [List.length_take] at hq
 rw [List.getElem_take] at e
 have := List.pairwise_iff_getElem.1 hnd q v (by omega) hv (by omega)
 exact this e
theorem cls_of {x y : At} {w : Int} (hy : stB w y = true) (hx : stB w x = true ∨ ∃ p ∈ x.loads, p.1 = w) : clsB x y = true ∧ clsB y x = true := by
 obtain ⟨s, hs, e⟩ := List.any_eq_true.1 hy
 have e : s.1 = w := by simpa using e
 have hn : namB x.loads s.1 = true ∨ ∃ t ∈ x.stores, t.1 = w := by
  rcases hx with hx | ⟨p, hp, e2⟩
  ·obtain ⟨t, ht, e2⟩ := List.any_eq_true.1 hx
   exact .inr ⟨t, ht, by simpa using e2⟩
  ·exact .inl (namB_mem.2 ⟨p, hp, by rw [e2, e]⟩)
 have c1 : (y.stores.any fun p => namB x.loads p.1 || namB x.stores p.1) = true := by
  refine List.any_eq_true.2 ⟨s, hs, ?_⟩
  rcases hn with hn | ⟨t, ht, e3⟩
  ·rw [hn]; rfl
  ·rw [Bool.or_eq_true]; exact .inr (namB_mem.2 ⟨t, ht, by rw [e3, e]⟩)
 constructor
 ·rw [cls_eq, Bool.or_eq_true]; exact .inr c1
 ·rw [cls_eq, Bool.or_eq_true]; exact .inl c1
theorem explains_ord {h : List Ev} {l0 : List At} {first : List Int} (hs : splitL h = some l0) (hn : (comL l0).length ≤ 200) (hno : h.any plainB = false) (hj : ∀ n, n < h.length → badAt h l0 (begL first) n = false) :
  exM (comL l0) (begL first) (ordL (edL (comL l0)) (comL l0).length) = true := by
 have t := tmL_of hs
 have ats := ats_of hs
 obtain ⟨u, hp, _⟩ := ordL_spec (edL (comL l0)) (comL l0).length
 have hfull := ord_full t hn
 have hcl : ∀ x, x ∈ comL l0 ↔ x ∈ l0 ∧ x.com = true ∧ 0 ≤ x.point := fun x => by
  unfold comL outB
  rw [List.mem_filter]
  simp only [Bool.not_or, Bool.not_not, Bool.and_eq_true, Bool.not_eq_true', decide_eq_false_iff_not]
  constructor
  ·rintro ⟨h1, h2, h3⟩; exact ⟨h1, h2, by omega⟩
  ·rintro ⟨h1, h2, h3⟩; exact ⟨h1, h2, by omega⟩
 have hpt : ∀ x ∈ l0, ∀ k : Nat, x.point = k → ptAt l0 k = some x := fun x hx k hk => by
  cases hq : ptAt l0 k with
  | none => exact absurd hk (ptAt_none hq x hx)
  | some y =>
   obtain ⟨h1, h2⟩ := ptAt_some hq
   obtain ⟨i, hi⟩ := List.getElem?_of_mem hx
   obtain ⟨j, hj⟩ := List.getElem?_of_mem h1
   have := ats.one k i j x y hi hj hk h2
   subst this
   rw [hi] at hj; injection hj with hj; rw [hj]
 generalize hl : comL l0 = l at *
 generalize ha : ordL (edL l) l.length = a at *
 have hpair := ord_pair hp u.nd
 have hnat : ∀ (i : Nat) (hi : i < a.length), ∃ q : Nat, a[i] = q ∧ q < l.length := fun i hi => by
  have := u.rg _ (List.getElem_mem hi)
  exact ⟨a[i].toNat, by omega, by omega⟩
 -- what stands ahead in the order, and clashes, is ahead in points
 have hpp : ∀ (i j : Nat) (hi : i < a.length) (hj : j < a.length), i < j → (l.getD a[i].toNat default).point ≠ (l.getD a[j].toNat default).point ∧ (clsB (l.getD a[j].toNat default) (l.getD a[i].toNat default) = true → (l.getD a[i].toNat default).point < (l.getD a[j].toNat default).point) := by
  intro i j hi hj hij
  obtain ⟨p, hp1, hp2⟩ := hnat i hi
  obtain ⟨q, hq1, hq2⟩ := hnat j hj
  have hne : p ≠ q := fun e => by
   have := List.pairwise_iff_getElem.1 u.nd i j hi hj hij
   rw [hp1, hq1, e] at this; exact this rfl
  have hno := hpair i j hi hj hij
  rw [hp1, hq1] at hno ⊢
  rw [Int.toNat_natCast, Int.toNat_natCast, getD_at hp2, getD_at hq2]
  have hd : l[p].point ≠ l[q].point := by
   rcases Nat.lt_trichotomy p q with h1 | h1 | h1
   ·exact List.pairwise_iff_getElem.1 t.ne p q hp2 hq2 h1
   ·exact absurd h1 hne
   ·exact fun e => List.pairwise_iff_getElem.1 t.ne q p hq2 hp2 h1 e.symm
  refine ⟨hd, fun hc => ?_⟩
  have hb : edB l q p = false := by
   cases hb : edB l q p with
   | false => rfl
   | true => exact absurd (edL_mem.2 ⟨hq2, hp2, hb⟩) hno
  unfold edB at hb
  rw [getD_at hp2, getD_at hq2, show decide (q ≠ p) = true from decide_eq_true (fun e => hne e.symm), Bool.true_and] at hb
  unfold edC at hb
  rw [Bool.or_eq_false_iff, hc, Bool.and_true, decide_eq_false_iff_not] at hb
  omega
 refine exM_of l a _ fun i hi p hpl => ?_
 obtain ⟨q, hq1, hq2⟩ := hnat i hi
 have hxl : l.getD a[i].toNat default ∈ l := by rw [hq1, Int.toNat_natCast, getD_at hq2]; exact List.getElem_mem _
 generalize hx : l.getD a[i].toNat default = x at *
 obtain ⟨hx0, hxc, hxp⟩ := (hcl x).1 hxl
 obtain ⟨k, hk⟩ : ∃ k : Nat, x.point = k := ⟨x.point.toNat, by omega⟩
 have hkx := hpt x hx0 k hk
 have hkl : k < h.length := ((ats.ok x hx0).pt k hk).1
 have hgood : memF (memTo h l0 (begL first) k) p.1 = p.2 := by
  have hb := hj k hkl
  unfold badAt hapB at hb
  rw [hkx] at hb
  simp only [Option.isSome_some, Bool.true_or, Bool.true_and, Bool.not_eq_false', explB, Bool.and_eq_true] at hb
  have := List.all_eq_true.1 hb.2 p hpl
  simpa using this
 rw [← hgood, memTo_hap (begL first) hno k (by omega), memF_putAll, memF_putAll]
 rw [lastV_filter, lastV_filter p.1 _ ((hapL l0 k).flatMap (·.stores))]
 congr 1
 have e1 : stF l a i = ((a.take i).map fun n => l.getD n.toNat default).flatMap (·.stores) := by
  unfold stF; rw [List.flatMap_map]
 rw [e1, flat_filter, flat_filter]
 congr 1
 have hget : ∀ (j : Nat) (hj : j < (a.take i).length), (a.take i)[j] = a[j]'(by rw [List.length_take] at hj; omega) := fun j hj => List.getElem_take
 refine up_eq ?_ (List.Pairwise.filter _ (hapL_up l0 k)) fun y => ?_
 ·-- up in points
  have h1 : (((a.take i).map fun n => l.getD n.toNat default)).Pairwise fun y z => clsB z y = true → y.point < z.point := by
   rw [List.pairwise_map, List.pairwise_iff_getElem]
   intro c d hc hd hcd
   rw [hget c hc, hget d hd]
   rw [List.length_take] at hc hd
   exact (hpp c d (by omega) (by omega) hcd).2
  refine (List.Pairwise.filter _ h1).imp_of_mem ?_
  intro y z hy hz hyz
  have hy := (List.mem_filter.1 hy).2
  have hz := (List.mem_filter.1 hz).2
  exact hyz (cls_of hy (.inl hz)).1
 ·rw [List.mem_filter, List.mem_filter, hapL_mem]
  constructor
  ·rintro ⟨h1, hw⟩
   obtain ⟨n, hn1, rfl⟩ := List.mem_map.1 h1
   obtain ⟨j, hj1, hj2⟩ := List.mem_iff_getElem.1 hn1
   rw [hget j hj1] at hj2
   rw [List.length_take] at hj1
   subst hj2
   have hji : j < i := by omega
   have hja : j < a.length := by omega
   have := (hpp j i hja hi hji).2
   rw [hx] at this
   have hlt := this (cls_of hw (.inr ⟨p, hpl, rfl⟩)).1
   obtain ⟨r, hr1, hr2⟩ := hnat j hja
   have hyl : l.getD a[j].toNat default ∈ l := by rw [hr1, Int.toNat_natCast, getD_at hr2]; exact List.getElem_mem _
   obtain ⟨y1, y2, y3⟩ := (hcl _).1 hyl
   refine ⟨⟨(l.getD a[j].toNat default).point.toNat, by omega, hpt _ y1 _ (by omega), y2⟩, hw⟩
  ·rintro ⟨⟨k', hk', hy, hyc⟩, hw⟩
   obtain ⟨y1, y2⟩ := ptAt_some hy
   have hyl : y ∈ l := (hcl y).2 ⟨y1, hyc, by omega⟩
   obtain ⟨r, hr1, hr2⟩ := List.mem_iff_getElem.1 hyl
   have hra : (r : Int) ∈ a := full_mem u.nd u.rg hfull (by omega) (by omega)
   obtain ⟨j, hj1, hj2⟩ := List.mem_iff_getElem.1 hra
   have hgy : l.getD a[j].toNat default = y := by rw [hj2, Int.toNat_natCast, getD_at hr1, hr2]
   refine ⟨?_, hw⟩
   rcases Nat.lt_trichotomy j i with h1 | h1 | h1
   ·refine List.mem_map.2 ⟨a[j], ?_, hgy⟩
    refine List.mem_iff_getElem.2 ⟨j, by rw [List.length_take]; omega, hget j (by rw [List.length_take]; omega)⟩
   ·subst h1
    rw [hx] at hgy; subst hgy; omega
   ·have := (hpp i j hi hj1 h1).2
    rw [hx, hgy] at this
    have hlt := this (cls_of hw (.inr ⟨p, hpl, rfl⟩)).2
    omega
end Go.Hs
