/- The plain law of graphs (1): numbers in order, each once; edges by their first nodes. No program in sight. -/
import Derived.Test.YtbkpiljencaoeaaSxCore
set_option linter.unusedSimpArgs false
set_option linter.unusedVariables false
set_option linter.unnecessarySimpa false
namespace Go.Gr
open Go Go.Sx
def isV (l : List Int) : List Value := l.map fun n => .int .i64 n
theorem isV_len (l : List Int) : (isV l).length = l.length := by simp [isV]
theorem isV_get (l : List Int) (j : Nat) (x : Int) (h : l[j]? = some x) : (isV l)[j]? = some (.int .i64 x) := by
 unfold isV; rw [List.getElem?_map, h]; rfl
def dpI : List Int → List Int
 | [] => []
 | [x] => [x]
 | x :: y :: r => if x = y then dpI (y :: r) else x :: dpI (y :: r)
theorem dpI_snoc (y : Int) : ∀ (l : List Int) (x : Int), dpI (l ++ [x] ++ [y]) = if x = y then dpI (l ++ [x]) else dpI (l ++ [x]) ++ [y]
 | [], x => by
  by_cases h : x = y
  ·subst h; simp [dpI]
  ·simp [dpI, h]
 | [a], x => by
  have := dpI_snoc y [] x
  simp only [List.nil_append, List.cons_append] at *
  by_cases h : a = x
  ·simp only [dpI, h, if_true] at *
   split <;> simp_all
  ·simp only [dpI, h, if_false] at *
   split <;> simp_all
 | a :: c :: l, x => by
  have := dpI_snoc y (c :: l) x
  simp only [List.cons_append] at *
  by_cases h : a = c
  ·simp only [dpI, h, if_true] at *
   exact this
  ·simp only [dpI, h, if_false] at *
   rw [this]
   split <;> simp
theorem takeI_snoc {l : List Int} {k : Nat} {x : Int} (h : l[k]? = some x) : l.take (k + 1) = l.take k ++ [x] := by
 rw [List.take_add_one, h]; rfl
theorem dpI_step {l : List Int} {k : Nat} {x y : Int} (hx : l[k]? = some x) (hy : l[k + 1]? = some y) : dpI (l.take (k + 2)) = if x = y then dpI (l.take (k + 1)) else dpI (l.take (k + 1)) ++ [y] := by
 rw [takeI_snoc hy, takeI_snoc hx]
 exact dpI_snoc y _ x
theorem dpI_len : ∀ (l : List Int), (dpI l).length ≤ l.length
 | [] => by simp [dpI]
 | [x] => by simp [dpI]
 | x :: y :: r => by
  have := dpI_len (y :: r)
  simp only [dpI]
  split <;> simp at * <;> omega
def srtI (l : List Int) : List Int := l.mergeSort fun x y => decide (x ≤ y)
theorem srtI_up (l : List Int) : (srtI l).Pairwise (· ≤ ·) := by
 have := List.pairwise_mergeSort (le := fun x y : Int => decide (x ≤ y)) (fun a b c h1 h2 => by simp at *; omega) (fun a b => by simp; omega) l
 exact this.imp fun h => by simpa using h
theorem srtI_mem (l : List Int) (x : Int) : x ∈ srtI l ↔ x ∈ l := (List.mergeSort_perm l _).mem_iff
theorem dpI_mem (x : Int) : ∀ (l : List Int), x ∈ dpI l ↔ x ∈ l
 | [] => by simp [dpI]
 | [a] => by simp [dpI]
 | a :: b :: r => by
  have ih := dpI_mem x (b :: r)
  simp only [dpI]
  split
  ·rename_i h
   subst h
   rw [ih]; simp
  ·rw [List.mem_cons, ih, List.mem_cons (a := x) (b := a)]
theorem dpI_up : ∀ (l : List Int), l.Pairwise (· ≤ ·) → (dpI l).Pairwise (· < ·)
 | [], _ => by simp [dpI]
 | [a], _ => by simp [dpI]
 | a :: b :: r, h => by
  obtain ⟨h1, h2⟩ := List.pairwise_cons.1 h
  have ih := dpI_up (b :: r) h2
  simp only [dpI]
  split
  ·exact ih
  ·rename_i hne
   refine List.pairwise_cons.2 ⟨fun x hx => ?_, ih⟩
   rw [dpI_mem] at hx
   have h3 := h1 b (by simp)
   have h4 : b ≤ x := by
    rcases List.mem_cons.1 hx with h | h
    ·subst h; exact Int.le_refl _
    ·exact (List.pairwise_cons.1 h2).1 x h
   omega
def upI (l : List Int) : List Int := dpI (srtI l)
theorem upI_mem (l : List Int) (x : Int) : x ∈ upI l ↔ x ∈ l := by unfold upI; rw [dpI_mem, srtI_mem]
theorem upI_up (l : List Int) : (upI l).Pairwise (· < ·) := dpI_up _ (srtI_up l)
theorem srtI_len (l : List Int) : (srtI l).length = l.length := List.length_mergeSort _
theorem upI_len (l : List Int) : (upI l).length ≤ l.length := by
 have := dpI_len (srtI l)
 rw [srtI_len] at this; exact this
theorem upI_nil : upI [] = [] := List.length_eq_zero_iff.1 (by have := upI_len []; simpa using this)
theorem up_ext : ∀ {l m : List Int}, l.Pairwise (· < ·) → m.Pairwise (· < ·) → (∀ x, x ∈ l ↔ x ∈ m) → l = m
 | [], [], _, _, _ => rfl
 | [], b :: m, _, _, h => absurd ((h b).2 (by simp)) (by simp)
 | a :: l, [], _, _, h => absurd ((h a).1 (by simp)) (by simp)
 | a :: l, b :: m, hl, hm, h => by
  obtain ⟨h1, h2⟩ := List.pairwise_cons.1 hl
  obtain ⟨k1, k2⟩ := List.pairwise_cons.1 hm
  have e : a = b := by
   have p := (h a).1 (by simp)
   have q := (h b).2 (by simp)
   rcases List.mem_cons.1 p with p | p
   ·exact p
   ·rcases List.mem_cons.1 q with q | q
    ·exact q.symm
    ·have := h1 b q; have := k1 a p; omega
  subst e
  congr 1
  refine up_ext h2 k2 fun x => ⟨fun hx => ?_, fun hx => ?_⟩
  ·rcases List.mem_cons.1 ((h x).1 (by simp [hx])) with e | e
   ·subst e; have := h1 x hx; omega
   ·exact e
  ·rcases List.mem_cons.1 ((h x).2 (by simp [hx])) with e | e
   ·subst e; have := k1 x hx; omega
   ·exact e
end Go.Gr
namespace Go.Gr
abbrev Ed := Int × Int
def okG (n : Int) (l : List Ed) : Prop := 0 ≤ n ∧ n ≤ 500 ∧ l.length ≤ 20000 ∧ ∀ e ∈ l, 0 ≤ e.1 ∧ e.1 < n ∧ 0 ≤ e.2 ∧ e.2 < n
instance (n : Int) (l : List Ed) : Decidable (okG n l) := by unfold okG; infer_instance
def nxR (l : List Ed) (k : Int) : List Int := (l.filter fun e => e.1 == k).map (·.2)
def keysR : List Ed → List Int → List Int
 | [], ks => ks
 | e :: l, ks => keysR l (if e.1 ∈ ks then ks else ks ++ [e.1])
def keyT (l : List Ed) (i : Nat) : List Int := keysR (l.take i) []
theorem keysR_snoc : ∀ (l : List Ed) (e : Ed) (ks : List Int), keysR (l ++ [e]) ks = if e.1 ∈ keysR l ks then keysR l ks else keysR l ks ++ [e.1]
 | [], e, ks => rfl
 | x :: l, e, ks => by
  show keysR (l ++ [e]) _ = _
  rw [keysR_snoc l e]; rfl
theorem keysR_mem : ∀ (l : List Ed) (ks : List Int) (k : Int), k ∈ keysR l ks ↔ k ∈ ks ∨ ∃ e ∈ l, e.1 = k
 | [], ks, k => by simp [keysR]
 | x :: l, ks, k => by
  simp only [keysR]
  rw [keysR_mem l]
  split
  ·rename_i h
   constructor
   ·rintro (h1 | ⟨e, h1, h2⟩)
    ·exact .inl h1
    ·exact .inr ⟨e, by simp [h1], h2⟩
   ·rintro (h1 | ⟨e, h1, h2⟩)
    ·exact .inl h1
    ·rcases List.mem_cons.1 h1 with rfl | h1
     ·left; rw [← h2]; exact h
     ·exact .inr ⟨e, h1, h2⟩
  ·constructor
   ·rintro (h1 | ⟨e, h1, h2⟩)
    ·rcases List.mem_append.1 h1 with h1 | h1
     ·exact .inl h1
     ·simp only [List.mem_singleton] at h1
      exact .inr ⟨x, by simp, h1.symm⟩
    ·exact .inr ⟨e, by simp [h1], h2⟩
   ·rintro (h1 | ⟨e, h1, h2⟩)
    ·exact .inl (by simp [h1])
    ·rcases List.mem_cons.1 h1 with rfl | h1
     ·left; simp [h2]
     ·exact .inr ⟨e, h1, h2⟩
theorem keysR_nodup : ∀ (l : List Ed) (ks : List Int), ks.Nodup → (keysR l ks).Nodup
 | [], ks, h => h
 | x :: l, ks, h => by
  simp only [keysR]
  refine keysR_nodup l _ ?_
  split
  ·exact h
  ·rename_i hx
   rw [List.nodup_append]
   refine ⟨h, by simp, fun a ha b hb => ?_⟩
   simp only [List.mem_singleton] at hb
   subst hb
   exact fun e => hx (e ▸ ha)
theorem nxR_snoc (l : List Ed) (e : Ed) (k : Int) : nxR (l ++ [e]) k = if k = e.1 then nxR l k ++ [e.2] else nxR l k := by
 unfold nxR
 rw [List.filter_append, List.map_append]
 by_cases h : k = e.1
 ·subst h; rw [if_pos rfl]; simp
 ·rw [if_neg h]
  have : (e.1 == k) = false := by simpa using fun q => h q.symm
  simp [this]
theorem nxR_none {l : List Ed} {k : Int} (h : k ∉ keysR l []) : nxR l k = [] := by
 unfold nxR
 rw [List.map_eq_nil_iff, List.filter_eq_nil_iff]
 intro e he hk
 refine h ((keysR_mem l [] k).2 (.inr ⟨e, he, by simpa using hk⟩))
theorem nxR_len (l : List Ed) (k : Int) : (nxR l k).length ≤ l.length := by
 unfold nxR; rw [List.length_map]; exact List.length_filter_le _ _
theorem nxR_mem (l : List Ed) (k x : Int) : x ∈ nxR l k ↔ (k, x) ∈ l := by
 unfold nxR
 simp only [List.mem_map, List.mem_filter, beq_iff_eq]
 constructor
 ·rintro ⟨e, ⟨h1, h2⟩, h3⟩
  obtain ⟨a, b⟩ := e
  simp only at h2 h3
  subst h2; subst h3; exact h1
 ·exact fun h => ⟨(k, x), ⟨h, rfl⟩, rfl⟩
def nxU (l : List Ed) (k : Int) : List Int := upI (nxR l k)
theorem nxU_mem (l : List Ed) (k x : Int) : x ∈ nxU l k ↔ (k, x) ∈ l := by unfold nxU; rw [upI_mem, nxR_mem]
theorem nxU_len (l : List Ed) (k : Int) : (nxU l k).length ≤ l.length := Nat.le_trans (upI_len _) (nxR_len l k)
end Go.Gr
namespace Go.Gr
inductive Bh (l : List Ed) (i : Int) : Int → Prop where
 | one {k : Int} : (i, k) ∈ l → Bh l i k
 | step {k m : Int} : Bh l i k → (k, m) ∈ l → Bh l i m
theorem Bh.lt {n : Int} {l : List Ed} {i k : Int} (h : Bh l i k) (ok : okG n l) : 0 ≤ k ∧ k < n := by
 cases h with
 | one h => exact ⟨(ok.2.2.2 _ h).2.2.1, (ok.2.2.2 _ h).2.2.2⟩
 | step _ h => exact ⟨(ok.2.2.2 _ h).2.2.1, (ok.2.2.2 _ h).2.2.2⟩
theorem Bh.src {n : Int} {l : List Ed} {i k : Int} (h : Bh l i k) (ok : okG n l) : 0 ≤ i ∧ i < n := by
 induction h with
 | one h => exact ⟨(ok.2.2.2 _ h).1, (ok.2.2.2 _ h).2.1⟩
 | step _ _ ih => exact ih
theorem Bh.trans {l : List Ed} {i k m : Int} (h : Bh l i k) (q : Bh l k m) : Bh l i m := by
 induction q with
 | one e => exact .step h e
 | step _ e ih => exact .step ih e
theorem Bh.mono {l l' : List Ed} (hs : ∀ e ∈ l, e ∈ l') {i k : Int} (h : Bh l i k) : Bh l' i k := by
 induction h with
 | one e => exact .one (hs _ e)
 | step _ e ih => exact .step ih (hs _ e)
open Classical in
noncomputable def bhB (l : List Ed) (i k : Nat) : Bool := decide (Bh l i k)
theorem bhB_iff (l : List Ed) (i k : Nat) : bhB l i k = true ↔ Bh l i k := by unfold bhB; exact @decide_eq_true_iff _ (Classical.propDecidable _)
structure DInv (l : List Ed) (i : Int) (row : Nat → Bool) (ws : List Int) : Prop where
 snd : ∀ k : Nat, row k = true → Bh l i k
 cand : ∀ w ∈ ws, Bh l i w
 cl : ∀ (k : Nat) (m : Int), row k = true → ((k : Int), m) ∈ l → row m.toNat = true ∨ m ∈ ws
 base : ∀ m : Int, (i, m) ∈ l → row m.toNat = true ∨ m ∈ ws
theorem DInv.start (l : List Ed) (i : Int) : DInv l i (fun _ => false) (nxU l i) :=
 ⟨fun k h => (by cases h), fun w hw => .one ((nxU_mem l i w).1 hw), fun k m h => (by cases h), fun m hm => .inr ((nxU_mem l i m).2 hm)⟩
theorem DInv.skip {l : List Ed} {i : Int} {row : Nat → Bool} {ws : List Int} {w : Int} (h : DInv l i row (ws ++ [w])) (hw : row w.toNat = true) : DInv l i row ws := by
 refine ⟨h.snd, fun x hx => h.cand x (by simp [hx]), fun k m hk hm => ?_, fun m hm => ?_⟩
 ·rcases h.cl k m hk hm with e | e
  ·exact .inl e
  ·rcases List.mem_append.1 e with e | e
   ·exact .inr e
   ·simp only [List.mem_singleton] at e; subst e; exact .inl hw
 ·rcases h.base m hm with e | e
  ·exact .inl e
  ·rcases List.mem_append.1 e with e | e
   ·exact .inr e
   ·simp only [List.mem_singleton] at e; subst e; exact .inl hw
theorem DInv.mark {n : Int} {l : List Ed} {i : Int} {row : Nat → Bool} {ws : List Int} {w : Int} (ok : okG n l) (h : DInv l i row (ws ++ [w])) : DInv l i (fun j => if j = w.toNat then true else row j) (ws ++ nxU l w) := by
 have hw := h.cand w (by simp)
 have hw0 := (hw.lt ok).1
 have up : ∀ j, row j = true → (if j = w.toNat then true else row j) = true := fun j hj => by split <;> simp_all
 refine ⟨fun k hk => ?_, fun x hx => ?_, fun k m hk hm => ?_, fun m hm => ?_⟩
 ·by_cases e : k = w.toNat
  ·subst e; rw [Int.toNat_of_nonneg hw0]; exact hw
  ·simp only [if_neg e] at hk; exact h.snd k hk
 ·rcases List.mem_append.1 hx with e | e
  ·exact h.cand x (by simp [e])
  ·exact .step hw ((nxU_mem l w x).1 e)
 ·by_cases e : k = w.toNat
  ·subst e
   rw [Int.toNat_of_nonneg hw0] at hm
   exact .inr (List.mem_append_right _ ((nxU_mem l w m).2 hm))
  ·simp only [if_neg e] at hk
   rcases h.cl k m hk hm with q | q
   ·exact .inl (up _ q)
   ·rcases List.mem_append.1 q with q | q
    ·exact .inr (by simp [q])
    ·simp only [List.mem_singleton] at q; subst q; exact .inl (by simp)
 ·rcases h.base m hm with q | q
  ·exact .inl (up _ q)
  ·rcases List.mem_append.1 q with q | q
   ·exact .inr (by simp [q])
   ·simp only [List.mem_singleton] at q; subst q; exact .inl (by simp)
theorem DInv.fin {n : Int} {l : List Ed} {i : Nat} {row : Nat → Bool} (ok : okG n l) (h : DInv l i row []) (k : Nat) : row k = bhB l i k := by
 rw [Bool.eq_iff_iff, bhB_iff]
 constructor
 ·exact h.snd k
 ·intro hb
  have all : ∀ m : Int, Bh l i m → row m.toNat = true := by
   intro m hm
   induction hm with
   | one e =>
    rcases h.base _ e with q | q
    ·exact q
    ·cases q
   | step hb e ih =>
    have h0 := (hb.lt ok).1
    rcases h.cl _ _ ih (by rw [Int.toNat_of_nonneg h0]; exact e) with q | q
    ·exact q
    ·cases q
  have := all _ hb
  rwa [Int.toNat_natCast] at this
def cntN (n : Nat) (row : Nat → Bool) : Nat := (List.range n).countP fun k => !row k
theorem cntN_succ (n : Nat) (row : Nat → Bool) : cntN (n + 1) row = cntN n row + bif row n then 0 else 1 := by
 unfold cntN
 rw [List.range_succ, List.countP_append]
 cases h : row n <;> simp [List.countP_cons, h]
theorem cntN_off : ∀ (n : Nat) {k : Nat} (row : Nat → Bool), n ≤ k → cntN n (fun j => if j = k then true else row j) = cntN n row
 | 0, k, row, h => rfl
 | n + 1, k, row, h => by
  rw [cntN_succ, cntN_succ, cntN_off n row (by omega), if_neg (by omega)]
theorem cntN_set : ∀ (n : Nat) {k : Nat} {row : Nat → Bool}, k < n → row k = false → cntN n (fun j => if j = k then true else row j) + 1 = cntN n row
 | n + 1, k, row, h, hk => by
  rw [cntN_succ, cntN_succ]
  by_cases e : k = n
  ·subst e
   rw [cntN_off _ _ (Nat.le_refl _), if_pos rfl, hk]; rfl
  ·have := cntN_set n (k := k) (row := row) (by omega) hk
   rw [if_neg (fun q => e q.symm)]; omega
theorem cntN_zero : ∀ (n : Nat), cntN n (fun _ => false) = n
 | 0 => rfl
 | n + 1 => by rw [cntN_succ, cntN_zero n]; rfl
def idxI (l : List Int) (x : Int) : Int := if x ∈ l then ((l.idxOf x : Nat) : Int) else -1
theorem idxOf_at {x : Int} : ∀ {l : List Int} {i : Nat}, l[i]? = some x → x ∉ l.take i → l.idxOf x = i
 | y :: l, 0, h, _ => by
  simp only [List.getElem?_cons_zero, Option.some.injEq] at h
  subst h; simp
 | y :: l, i + 1, h, hn => by
  simp only [List.take_succ_cons, List.mem_cons, not_or] at hn
  have ih := idxOf_at (l := l) (i := i) (by simpa using h) hn.2
  rw [List.idxOf_cons, show (y == x) = false by simpa using fun e => hn.1 e.symm, ih]; rfl
theorem idxI_at {l : List Int} {x : Int} {i : Nat} (h : l[i]? = some x) (hn : x ∉ l.take i) : idxI l x = i := by
 unfold idxI
 rw [if_pos (List.mem_of_getElem? h), idxOf_at h hn]
theorem idxI_no {l : List Int} {x : Int} (h : x ∉ l.take l.length) : idxI l x = -1 := by
 unfold idxI
 rw [List.take_of_length_le (Nat.le_refl _)] at h
 rw [if_neg h]
def minI (x : Int) (l : List Int) : Int := l.foldl min x
theorem minI_snoc (x : Int) (l : List Int) (y : Int) : minI x (l ++ [y]) = min (minI x l) y := by unfold minI; rw [List.foldl_append]; rfl
theorem minI_le : ∀ (l : List Int) (x : Int), minI x l ≤ x ∧ ∀ y ∈ l, minI x l ≤ y
 | [], x => ⟨Int.le_refl _, by simp⟩
 | y :: l, x => by
  have ih := minI_le l (min x y)
  have e : minI x (y :: l) = minI (min x y) l := rfl
  rw [e]
  refine ⟨by omega, fun a ha => ?_⟩
  rcases List.mem_cons.1 ha with rfl | h
  ·omega
  ·exact ih.2 a h
theorem minI_mem : ∀ (l : List Int) (x : Int), minI x l ∈ x :: l
 | [], x => by simp [minI]
 | y :: l, x => by
  have ih := minI_mem l (min x y)
  have e : minI x (y :: l) = minI (min x y) l := rfl
  rw [e]
  rcases List.mem_cons.1 ih with h | h
  ·rw [h]
   by_cases q : x ≤ y
   ·rw [Int.min_eq_left q]; simp
   ·rw [Int.min_eq_right (by omega)]; simp
  ·simp [h]
end Go.Gr
namespace Go.Gr
noncomputable def selfN (l : List Ed) (n : Nat) : Nat := (List.range n).findIdx fun i => bhB l i i
theorem findIdx_range {p : Nat → Bool} {n i : Nat} (hi : i < n) (h : ∀ j, j < i → p j = false) (hp : p i = true) : (List.range n).findIdx p = i := by
 rw [List.findIdx_eq (by simpa using hi)]
 refine ⟨by simpa using hp, fun j hj => ?_⟩
 simpa using h j hj
theorem findIdx_none {p : Nat → Bool} {n : Nat} (h : ∀ j, j < n → p j = false) : (List.range n).findIdx p = n := by
 have := List.findIdx_eq_length_of_false (xs := List.range n) (p := p) fun x hx => by
  have := List.mem_range.1 hx
  simpa using h x this
 simpa using this
theorem findIdx_spec {p : Nat → Bool} {n : Nat} : (∀ j, j < n → p j = false) ∧ (List.range n).findIdx p = n ∨ (List.range n).findIdx p < n ∧ p ((List.range n).findIdx p) = true ∧ ∀ j, j < (List.range n).findIdx p → p j = false := by
 by_cases h : ∀ j, j < n → p j = false
 ·exact .inl ⟨h, findIdx_none h⟩
 ·right
  have hx : ∃ x ∈ List.range n, p x = true := by
   refine Classical.byContradiction fun hn => h fun j hj => ?_
   cases hp : p j with
   | false => rfl
   | true => exact absurd ⟨j, List.mem_range.2 hj, hp⟩ hn
  have hlt := List.findIdx_lt_length_of_exists hx
  rw [List.length_range] at hlt
  refine ⟨hlt, ?_, fun j hj => ?_⟩
  ·have := List.findIdx_getElem (xs := List.range n) (p := p) (w := by simpa using hlt)
   simpa using this
  ·have := List.not_of_lt_findIdx (xs := List.range n) (p := p) hj
   simpa using this
noncomputable def stepC (l : List Ed) (k : Nat) : Nat := match (nxU l k).find? fun t => bhB l t.toNat k with
 | some t => t.toNat
 | none => k
theorem stepC_at {l : List Ed} {k j : Nat} {t : Int} (h : (nxU l k)[j]? = some t) (hb : bhB l t.toNat k = true) (hn : ∀ x ∈ (nxU l k).take j, bhB l x.toNat k = false) : stepC l k = t.toNat := by
 have e : (nxU l k).find? (fun t => bhB l t.toNat k) = some t := by
  rw [List.find?_eq_some_iff_append]
  refine ⟨hb, (nxU l k).take j, (nxU l k).drop (j + 1), ?_, fun a ha => by rw [hn a ha]; rfl⟩
  have h1 := List.take_append_drop j (nxU l k)
  rw [List.drop_eq_getElem_cons (List.getElem?_eq_some_iff.1 h).1, (List.getElem?_eq_some_iff.1 h).2] at h1
  exact h1.symm
 unfold stepC; rw [e]
theorem stepC_none {l : List Ed} {k : Nat} (h : ∀ x ∈ nxU l k, bhB l x.toNat k = false) : stepC l k = k := by
 have e : (nxU l k).find? (fun t => bhB l t.toNat k) = none := by
  rw [List.find?_eq_none]
  intro x hx; rw [h x hx]; simp
 unfold stepC; rw [e]
theorem stepC_lt {n : Nat} {l : List Ed} (ok : okG n l) {k : Nat} (hk : k < n) : stepC l k < n := by
 unfold stepC
 split
 ·rename_i t ht
  have := ok.2.2.2 _ ((nxU_mem l k t).1 (List.mem_of_find?_eq_some ht))
  omega
 ·exact hk
noncomputable def walkC (l : List Ed) : Nat → List Int → Nat → List Int
 | 0, w, _ => w
 | f + 1, w, k => if (k : Int) ∈ w then w.drop (w.idxOf (k : Int)) else walkC l f (w ++ [(k : Int)]) (stepC l k)
def rotL : List Int → List Int
 | [] => []
 | x :: r => (x :: r).drop ((x :: r).idxOf (minI x r)) ++ (x :: r).take ((x :: r).idxOf (minI x r))
open Classical in
noncomputable def cycL (l : List Ed) (n : Nat) : List Int := if selfN l n = n then [] else rotL (walkC l (n + 1) [] (selfN l n))
theorem nodup_le : ∀ (n : Nat) (w : List Int), w.Nodup → (∀ x ∈ w, 0 ≤ x ∧ x < n) → w.length ≤ n
 | 0, w, _, h => by
  cases w with
  | nil => simp
  | cons x w => have := h x (by simp); omega
 | n + 1, w, hn, h => by
  by_cases hm : (n : Int) ∈ w
  ·have h1 := nodup_le n (w.erase n) (hn.erase _) fun x hx => by
    have h2 := h x (List.mem_of_mem_erase hx)
    have h3 : x ≠ n := fun e => by subst e; exact hn.not_mem_erase hx
    omega
   rw [List.length_erase_of_mem hm] at h1
   omega
  ·have := nodup_le n w hn fun x hx => by
    have h2 := h x hx
    have h3 : x ≠ n := fun e => by subst e; exact hm hx
    omega
   omega
end Go.Gr
namespace Go.Gr
def cnt (ks : List Int) (d p : Int → Bool) : Nat := ks.countP fun k => d k && p k
theorem cnt_cons (a : Int) (ks : List Int) (d p : Int → Bool) : cnt (a :: ks) d p = cnt ks d p + bif d a && p a then 1 else 0 := by
 unfold cnt
 rw [List.countP_cons]
 cases d a && p a <;> simp
theorem cnt_congr {ks : List Int} {d d' p : Int → Bool} (h : ∀ k ∈ ks, d k = d' k) : cnt ks d p = cnt ks d' p := by
 unfold cnt
 apply List.countP_congr
 intro k hk
 rw [h k hk]
theorem cnt_add : ∀ {ks : List Int} {d d' p : Int → Bool} {k0 : Int}, ks.Nodup → k0 ∈ ks → d k0 = false → d' k0 = true → (∀ x, x ≠ k0 → d' x = d x) → cnt ks d' p = cnt ks d p + bif p k0 then 1 else 0
 | a :: ks, d, d', p, k0, hn, hm, h1, h2, h3 => by
  rw [cnt_cons, cnt_cons]
  obtain ⟨ha, hn⟩ := List.nodup_cons.1 hn
  by_cases e : a = k0
  ·subst e
   rw [h1, h2, cnt_congr (d := d') (d' := d) fun k hk => h3 k fun e => ha (e ▸ hk)]
   simp
  ·rw [cnt_add hn (by rcases List.mem_cons.1 hm with h | h; exact absurd h.symm e; exact h) h1 h2 h3, h3 a e]
   omega
theorem cnt_none {ks : List Int} {d p : Int → Bool} (h : ∀ k, d k = false) : cnt ks d p = 0 := by
 unfold cnt
 rw [List.countP_eq_zero]
 intro k _
 rw [h k]; simp
def pN (l : List Ed) (i : Nat) (k : Int) : Bool := (nxU l k).contains (i : Int)
theorem pN_iff (l : List Ed) (i : Nat) (k : Int) : pN l i k = true ↔ (k, (i : Int)) ∈ l := by
 unfold pN; rw [List.contains_iff_mem, nxU_mem]
def ahD (l : List Ed) (d : Int → Bool) (i : Nat) : Int := ((cnt (keysR l []) d (pN l i) : Nat) : Int)
def ahU (l : List Ed) (u : List Int) (i : Nat) : Int := if (i : Int) ∈ u then -1 else ahD l (fun k => !u.contains k) i
theorem ahU_nil (l : List Ed) (d : Int → Bool) (hd : ∀ k ∈ keysR l [], d k = true) (i : Nat) : ahD l d i = ahU l [] i := by
 unfold ahU
 rw [if_neg (by simp)]
 unfold ahD
 rw [cnt_congr (d := d) (d' := fun k => !([] : List Int).contains k) fun k hk => by rw [hd k hk]; rfl]
theorem nx_key {l : List Ed} {k x : Int} (h : (k, x) ∈ l) : k ∈ keysR l [] := (keysR_mem l [] k).2 (.inr ⟨_, h, rfl⟩)
theorem ahU_zero {l : List Ed} {u : List Int} {i : Nat} : ahU l u i = 0 ↔ (i : Int) ∉ u ∧ ∀ k : Int, (k, (i : Int)) ∈ l → k ∈ u := by
 unfold ahU
 by_cases h : (i : Int) ∈ u
 ·rw [if_pos h]
  exact ⟨fun e => absurd e (by decide), fun e => absurd h e.1⟩
 ·rw [if_neg h]
  unfold ahD cnt
  constructor
  ·intro e
   refine ⟨h, fun k hk => ?_⟩
   have e : List.countP (fun k => (!u.contains k) && pN l i k) (keysR l []) = 0 := Int.natCast_eq_zero.1 e
   rw [List.countP_eq_zero] at e
   have := e k (nx_key hk)
   rw [(pN_iff l i k).2 hk, Bool.and_true] at this
   simpa using this
  ·rintro ⟨_, e⟩
   have : List.countP (fun k => (!u.contains k) && pN l i k) (keysR l []) = 0 := by
    rw [List.countP_eq_zero]
    intro k _ hk
    simp only [Bool.and_eq_true, pN_iff] at hk
    have := e k hk.2
    simp [this] at hk
   rw [this]; rfl
def pickN (l : List Ed) (n : Nat) (u : List Int) : Nat := (List.range n).findIdx fun i => ahU l u i == 0
def grd (l : List Ed) (n : Nat) : Nat → List Int → List Int
 | 0, u => u
 | f + 1, u => if pickN l n u < n then grd l n f (u ++ [(pickN l n u : Int)]) else u
def ordL (l : List Ed) (n : Nat) : List Int := grd l n (n + 1) []
structure UInv (l : List Ed) (n : Nat) (u : List Int) : Prop where
 nd : u.Nodup
 rg : ∀ x ∈ u, 0 ≤ x ∧ x < n
 cl : ∀ x ∈ u, ∀ k : Int, (k, x) ∈ l → k ∈ u
theorem UInv.nil (l : List Ed) (n : Nat) : UInv l n [] := ⟨by simp, by simp, by simp⟩
theorem UInv.len {l : List Ed} {n : Nat} {u : List Int} (h : UInv l n u) : u.length ≤ n := nodup_le n u h.nd h.rg
theorem UInv.snoc {l : List Ed} {n : Nat} {u : List Int} (h : UInv l n u) {i : Nat} (hi : i < n) (h0 : ahU l u i = 0) : UInv l n (u ++ [(i : Int)]) := by
 obtain ⟨h1, h2⟩ := ahU_zero.1 h0
 refine ⟨?_, fun x hx => ?_, fun x hx k hk => ?_⟩
 ·rw [List.nodup_append]
  refine ⟨h.nd, by simp, fun a ha b hb => ?_⟩
  simp only [List.mem_singleton] at hb
  subst hb
  exact fun e => h1 (e ▸ ha)
 ·rcases List.mem_append.1 hx with e | e
  ·exact h.rg x e
  ·simp only [List.mem_singleton] at e; subst e; omega
 ·rcases List.mem_append.1 hx with e | e
  ·exact List.mem_append_left _ (h.cl x e k hk)
  ·simp only [List.mem_singleton] at e; subst e
   exact List.mem_append_left _ (h2 k hk)
theorem ahU_snoc {l : List Ed} {n : Nat} {u : List Int} (h : UInv l n u) {a : Nat} (h0 : ahU l u a = 0) (i : Nat) : ahU l (u ++ [(a : Int)]) i = if i = a then -1 else ahU l u i - (if (i : Int) ∈ nxU l a then 1 else 0) := by
 obtain ⟨h1, h2⟩ := ahU_zero.1 h0
 by_cases hia : i = a
 ·subst hia
  rw [if_pos rfl]
  unfold ahU; rw [if_pos (by simp)]
 rw [if_neg hia]
 have hne : (i : Int) ≠ a := by omega
 by_cases hiu : (i : Int) ∈ u
 ·have hno : (i : Int) ∉ nxU l a := fun hm => h1 (h.cl _ hiu _ ((nxU_mem l a i).1 hm))
  rw [if_neg hno]
  unfold ahU; rw [if_pos (by simp [hiu]), if_pos hiu]; omega
 ·unfold ahU
  rw [if_neg (by simp [hiu, hne]), if_neg hiu]
  unfold ahD
  by_cases hk : (a : Int) ∈ keysR l []
  ·have := cnt_add (ks := keysR l []) (d := fun k => !(u ++ [(a : Int)]).contains k) (d' := fun k => !u.contains k) (p := pN l i) (k0 := a) (keysR_nodup _ _ (by simp)) hk (by simp) (by simpa using h1) fun x hx => by simp [hx]
   rw [this]
   by_cases hm : (i : Int) ∈ nxU l a
   ·have hp : pN l i a = true := by unfold pN; rw [List.contains_iff_mem]; exact hm
    rw [hp, if_pos hm]; simp only [cond_true]; omega
   ·have hp : pN l i a = false := by
     unfold pN
     rw [Bool.eq_false_iff]; intro e; rw [List.contains_iff_mem] at e; exact hm e
    rw [hp, if_neg hm]; simp only [cond_false]; omega
  ·have hm : (i : Int) ∉ nxU l a := fun hm => hk (nx_key ((nxU_mem l a i).1 hm))
   rw [if_neg hm]
   rw [cnt_congr (d := fun k => !(u ++ [(a : Int)]).contains k) (d' := fun k => !u.contains k) fun k hkk => by
    have : k ≠ a := fun e => hk (e ▸ hkk)
    simp [this]]
   omega
theorem nxU_nodup (l : List Ed) (k : Int) : (nxU l k).Nodup := (upI_up (nxR l k)).imp fun h => by omega
theorem idxOf_map {f : Nat → Int} {n : Nat} : idxI ((List.range n).map f) 0 = if (List.range n).findIdx (fun i => f i == 0) < n then (((List.range n).findIdx (fun i => f i == 0) : Nat) : Int) else -1 := by
 rcases findIdx_spec (p := fun i => f i == 0) (n := n) with ⟨h1, h2⟩ | ⟨h1, h2, h3⟩
 ·rw [h2, if_neg (by omega)]
  unfold idxI
  rw [if_neg]
  intro hm
  obtain ⟨j, hj, he⟩ := List.mem_map.1 hm
  have := h1 j (List.mem_range.1 hj)
  simp [he] at this
 ·rw [if_pos h1]
  generalize (List.range n).findIdx (fun i => f i == 0) = q at h1 h2 h3 ⊢
  refine idxI_at (i := q) ?_ ?_
  ·rw [List.getElem?_map, List.getElem?_range h1]
   have : f q = 0 := by simpa using h2
   rw [Option.map_some, this]
  ·intro hm
   rw [← List.map_take, List.take_range, Nat.min_eq_left (by omega)] at hm
   obtain ⟨j, hj, he⟩ := List.mem_map.1 hm
   have := h3 j (List.mem_range.1 hj)
   simp [he] at this
theorem ahD_le {n : Nat} {l : List Ed} (ok : okG n l) (d : Int → Bool) (i : Nat) : 0 ≤ ahD l d i ∧ ahD l d i ≤ n := by
 have h1 : cnt (keysR l []) d (pN l i) ≤ (keysR l []).length := List.countP_le_length
 have h2 : (keysR l []).length ≤ n := nodup_le n _ (keysR_nodup _ _ (by simp)) fun x hx => by
  rcases (keysR_mem l [] x).1 hx with h | ⟨e, he, rfl⟩
  ·cases h
  ·have := ok.2.2.2 e he; omega
 unfold ahD; omega
theorem ahU_le {n : Nat} {l : List Ed} (ok : okG n l) (u : List Int) (i : Nat) : -1 ≤ ahU l u i ∧ ahU l u i ≤ n := by
 unfold ahU
 split
 ·omega
 ·have := ahD_le ok (fun k => !u.contains k) i; omega
theorem ahD_add {l : List Ed} {d d' : Int → Bool} {k : Int} (hk : k ∈ keysR l []) (h1 : d k = false) (h2 : d' k = true) (h3 : ∀ x, x ≠ k → d' x = d x) (i : Nat) : ahD l d' i = ahD l d i + (if (i : Int) ∈ nxU l k then 1 else 0) := by
 unfold ahD
 rw [cnt_add (keysR_nodup _ _ (by simp)) hk h1 h2 h3]
 by_cases hm : (i : Int) ∈ nxU l k
 ·have hp : pN l i k = true := by unfold pN; rw [List.contains_iff_mem]; exact hm
  rw [hp, if_pos hm]; simp
 ·have hp : pN l i k = false := by
   unfold pN
   rw [Bool.eq_false_iff]; intro e; rw [List.contains_iff_mem] at e; exact hm e
  rw [hp, if_neg hm]; simp
theorem take_mem {l : List Int} (hn : l.Nodup) {j : Nat} {t : Int} (hj : l[j]? = some t) (x : Int) : x ∈ l.take (j + 1) ↔ x ∈ l.take j ∨ x = t := by
 rw [List.take_add_one, hj]; simp
theorem take_not {l : List Int} (hn : l.Nodup) {j : Nat} {t : Int} (hj : l[j]? = some t) : t ∉ l.take j := by
 intro hm
 obtain ⟨i, hi⟩ := List.getElem?_of_mem hm
 rw [List.getElem?_take] at hi
 split at hi
 ·have := (List.getElem?_inj (List.getElem?_eq_some_iff.1 hi).1 hn).1 (hi.trans hj.symm)
  omega
 ·cases hi
end Go.Gr
namespace Go.Gr
def rgB (l : List Ed) (i j : Nat) : Bool := l.any fun e => e.1 == (i : Int) && e.2 == (j : Int)
theorem rgB_iff (l : List Ed) (i j : Nat) : rgB l i j = true ↔ ((i : Int), (j : Int)) ∈ l := by
 unfold rgB
 rw [List.any_eq_true]
 constructor
 ·rintro ⟨⟨a, b⟩, h1, h2⟩
  simp only [Bool.and_eq_true, beq_iff_eq] at h2
  rw [← h2.1, ← h2.2]; exact h1
 ·exact fun h => ⟨_, h, by simp⟩
def wst (M : Nat → Nat → Bool) (k i j : Nat) : Bool := M i j || (M i k && M k j)
def wsN (l : List Ed) : Nat → Nat → Nat → Bool
 | 0 => rgB l
 | k + 1 => wst (wsN l k) k
theorem wst_iff (M : Nat → Nat → Bool) (k i j : Nat) : wst M k i j = true ↔ M i j = true ∨ M i k = true ∧ M k j = true := by
 unfold wst; rw [Bool.or_eq_true, Bool.and_eq_true]
theorem wsN_sound (l : List Ed) : ∀ (k i j : Nat), wsN l k i j = true → Bh l i j
 | 0, i, j, h => .one ((rgB_iff l i j).1 h)
 | k + 1, i, j, h => by
  rcases (wst_iff _ _ _ _).1 h with h | ⟨h1, h2⟩
  ·exact wsN_sound l k i j h
  ·exact (wsN_sound l k i k h1).trans (wsN_sound l k k j h2)
theorem wsN_right (l : List Ed) : ∀ (k i j : Nat), rgB l i j = true → wsN l k i j = true
 | 0, i, j, h => h
 | k + 1, i, j, h => (wst_iff _ _ _ _).2 (.inl (wsN_right l k i j h))
theorem wsN_trans (l : List Ed) : ∀ (k a i j : Nat), a < k → wsN l k i a = true → wsN l k a j = true → wsN l k i j = true
 | k + 1, a, i, j, ha, h1, h2 => by
  have ih := wsN_trans l k
  refine (wst_iff _ _ _ _).2 ?_
  by_cases hk : a = k
  ·subst hk
   right
   constructor
   ·rcases (wst_iff _ _ _ _).1 h1 with h | ⟨h, _⟩ <;> exact h
   ·rcases (wst_iff _ _ _ _).1 h2 with h | ⟨_, h⟩ <;> exact h
  ·have hak : a < k := by omega
   rcases (wst_iff _ _ _ _).1 h1 with p | ⟨p1, p2⟩
   ·rcases (wst_iff _ _ _ _).1 h2 with q | ⟨q1, q2⟩
    ·exact .inl (ih a i j hak p q)
    ·exact .inr ⟨ih a i k hak p q1, q2⟩
   ·rcases (wst_iff _ _ _ _).1 h2 with q | ⟨q1, q2⟩
    ·exact .inr ⟨p1, ih a k j hak p2 q⟩
    ·exact .inr ⟨p1, q2⟩
theorem wsN_bh {n : Nat} {l : List Ed} (ok : okG n l) (i j : Nat) : bhB l i j = wsN l n i j := by
 rw [Bool.eq_iff_iff, bhB_iff]
 refine ⟨fun h => ?_, wsN_sound l n i j⟩
 have all : ∀ m : Int, Bh l i m → wsN l n i m.toNat = true := by
  intro m hm
  induction hm with
  | @one k e =>
   have := ok.2.2.2 _ e
   refine wsN_right l n _ _ ((rgB_iff l i _).2 ?_)
   rw [Int.toNat_of_nonneg this.2.2.1]; exact e
  | @step k m hb e ih =>
   have h1 := hb.lt ok
   have h2 := ok.2.2.2 _ e
   refine wsN_trans l n k.toNat i _ (by omega) ih (wsN_right l n _ _ ((rgB_iff l _ _).2 ?_))
   rw [Int.toNat_of_nonneg h1.1, Int.toNat_of_nonneg h2.2.2.1]; exact e
 have := all _ h
 rwa [Int.toNat_natCast] at this
def nxB (l : List Ed) (n k : Nat) : List Int := ((List.range n).filter fun i => rgB l k i).map fun i => ((i : Nat) : Int)
theorem nxB_eq {n : Nat} {l : List Ed} (ok : okG n l) (k : Nat) : nxU l k = nxB l n k := by
 refine up_ext (upI_up _) ?_ fun x => ?_
 ·unfold nxB
  rw [List.pairwise_map]
  have := (List.pairwise_lt_range (n := n)).filter fun i => rgB l k i
  exact this.imp fun h => by omega
 ·rw [nxU_mem l k x]
  unfold nxB
  simp only [List.mem_map, List.mem_filter, List.mem_range, rgB_iff]
  constructor
  ·intro h
   have := ok.2.2.2 _ h
   refine ⟨x.toNat, ⟨by omega, ?_⟩, by omega⟩
   rw [Int.toNat_of_nonneg this.2.2.1]; exact h
  ·rintro ⟨i, ⟨_, h⟩, rfl⟩; exact h
def stepB (l : List Ed) (n k : Nat) : Nat := ((List.range n).find? fun i => rgB l k i && wsN l n i k).getD k
theorem stepB_eq {n : Nat} {l : List Ed} (ok : okG n l) (k : Nat) : stepC l k = stepB l n k := by
 unfold stepC stepB
 rw [nxB_eq ok]
 unfold nxB
 rw [List.find?_map, List.find?_filter]
 have e : (fun a => decide (rgB l k a = true ∧ ((fun t : Int => bhB l t.toNat k) ∘ fun i : Nat => (i : Int)) a = true)) = fun i => rgB l k i && wsN l n i k := by
  funext a
  rw [Bool.eq_iff_iff]
  simp only [Function.comp, Int.toNat_natCast, wsN_bh ok, decide_eq_true_eq, Bool.and_eq_true]
 rw [e]
 cases (List.range n).find? fun i => rgB l k i && wsN l n i k with
 | none => rfl
 | some i => simp
def walkB (l : List Ed) (n : Nat) : Nat → List Int → Nat → List Int
 | 0, w, _ => w
 | f + 1, w, k => if (k : Int) ∈ w then w.drop (w.idxOf (k : Int)) else walkB l n f (w ++ [(k : Int)]) (stepB l n k)
theorem walkB_eq {n : Nat} {l : List Ed} (ok : okG n l) : ∀ (f : Nat) (w : List Int) (k : Nat), walkC l f w k = walkB l n f w k
 | 0, w, k => rfl
 | f + 1, w, k => by rw [walkC, walkB, stepB_eq ok, walkB_eq ok f]
def selfB (l : List Ed) (n : Nat) : Nat := (List.range n).findIdx fun i => wsN l n i i
def cycB (l : List Ed) (n : Nat) : List Int := if selfB l n = n then [] else rotL (walkB l n (n + 1) [] (selfB l n))
theorem cycB_eq {n : Nat} {l : List Ed} (ok : okG n l) : cycL l n = cycB l n := by
 have e : selfN l n = selfB l n := by
  unfold selfN selfB
  congr 1; funext i; exact wsN_bh ok i i
 unfold cycL cycB
 rw [e, walkB_eq ok]
def freeB (l : List Ed) (u : List Int) (i : Nat) : Bool := !u.contains (i : Int) && l.all fun e => e.2 != (i : Int) || u.contains e.1
theorem freeB_iff (l : List Ed) (u : List Int) (i : Nat) : (ahU l u i == 0) = freeB l u i := by
 rw [Bool.eq_iff_iff, beq_iff_eq, ahU_zero]
 unfold freeB
 rw [Bool.and_eq_true, List.all_eq_true]
 refine and_congr (by simp) ⟨fun h e he => ?_, fun h k hk => ?_⟩
 ·rw [Bool.or_eq_true]
  by_cases q : e.2 = (i : Int)
  ·right
   rw [List.contains_iff_mem]
   exact h e.1 (by rw [← q]; exact he)
  ·left; simpa using q
 ·have := h _ hk
  simpa using this
def pickB (l : List Ed) (n : Nat) (u : List Int) : Nat := (List.range n).findIdx (freeB l u)
theorem pickB_eq (l : List Ed) (n : Nat) (u : List Int) : pickN l n u = pickB l n u := by
 unfold pickN pickB
 congr 1; funext i; exact freeB_iff l u i
end Go.Gr
namespace Go.Gr
theorem get_idxOf {x : Int} : ∀ {l : List Int}, x ∈ l → l[l.idxOf x]? = some x
 | y :: l, h => by
  by_cases e : y = x
  ·subst e; simp
  ·have ih := get_idxOf (l := l) (by rcases List.mem_cons.1 h with q | q; exact absurd q.symm e; exact q)
   rw [List.idxOf_cons, show (y == x) = false by simpa using e]
   exact ih
structure CycOk (l : List Ed) (n : Nat) (c : List Int) : Prop where
 ne : c ≠ []
 nd : c.Nodup
 rg : ∀ x ∈ c, 0 ≤ x ∧ x < n
 self : ∀ x ∈ c, Bh l x x
 edge : ∀ j x y, j < c.length → c[j]? = some x → c[(j + 1) % c.length]? = some y → (x, y) ∈ l
theorem stepC_spec {l : List Ed} {n : Nat} (ok : okG n l) {k : Nat} (h : Bh l k k) : ((k : Int), (stepC l k : Int)) ∈ l ∧ Bh l (stepC l k) (stepC l k) ∧ stepC l k < n ∧ Bh l (stepC l k) k := by
 have hex : ∃ t ∈ nxU l k, bhB l t.toNat k = true := by
  have key : ∀ m : Int, Bh l k m → ∃ t : Int, ((k : Int), t) ∈ l ∧ (t = m ∨ Bh l t m) := by
   intro m hm
   induction hm with
   | one e => exact ⟨_, e, .inl rfl⟩
   | step hb e ih =>
    obtain ⟨t, h1, h2⟩ := ih
    refine ⟨t, h1, .inr ?_⟩
    rcases h2 with rfl | h2
    ·exact .one e
    ·exact .step h2 e
  obtain ⟨t, h1, h2⟩ := key k h
  have hr := ok.2.2.2 _ h1
  refine ⟨t, (nxU_mem l k t).2 h1, (bhB_iff l _ _).2 ?_⟩
  rw [Int.toNat_of_nonneg hr.2.2.1]
  rcases h2 with rfl | h2
  ·exact h
  ·exact h2
 unfold stepC
 cases hf : (nxU l k).find? (fun t => bhB l t.toNat k) with
 | none =>
  obtain ⟨t, h1, h2⟩ := hex
  have := List.find?_eq_none.1 hf t h1
  rw [h2] at this; simp at this
 | some t =>
  have h1 := List.mem_of_find?_eq_some hf
  have h2 := List.find?_some hf
  have hr := ok.2.2.2 _ ((nxU_mem l k t).1 h1)
  simp only at hr
  have h3 := (bhB_iff l _ _).1 h2
  rw [Int.toNat_of_nonneg hr.2.2.1] at h3
  simp only [Int.toNat_of_nonneg hr.2.2.1]
  exact ⟨(nxU_mem l k t).1 h1, .step h3 ((nxU_mem l k t).1 h1), by omega, h3⟩
theorem walkC_ok {l : List Ed} {n : Nat} (ok : okG n l) : ∀ (f : Nat) (w : List Int) (k : Nat), n < f + w.length → w.Nodup → (∀ x ∈ w, 0 ≤ x ∧ x < n) → (∀ x ∈ w, Bh l x x) → k < n → Bh l k k →
  (∀ j x y, (w ++ [(k : Int)])[j]? = some x → (w ++ [(k : Int)])[j + 1]? = some y → (x, y) ∈ l) → CycOk l n (walkC l f w k)
 | 0, w, k, hf, hnd, hin, _, _, _, _ => by
  have := nodup_le n w hnd hin
  omega
 | f + 1, w, k, hf, hnd, hin, hs, hk, hb, he => by
  rw [walkC]
  by_cases hm : (k : Int) ∈ w
  ·rw [if_pos hm]
   have hlt := List.idxOf_lt_length_of_mem hm
   have hat : w[w.idxOf (k : Int)]? = some (k : Int) := get_idxOf hm
   generalize w.idxOf (k : Int) = p at hlt hat
   have hmem : ∀ x ∈ w.drop p, x ∈ w := fun x hx => List.mem_of_mem_drop hx
   have hlen : (w.drop p).length = w.length - p := List.length_drop
   refine ⟨fun e => by rw [e] at hlen; simp at hlen; omega, hnd.sublist (List.drop_sublist p w), fun x hx => hin x (hmem x hx), fun x hx => hs x (hmem x hx), fun j x y hj hx hy => ?_⟩
   rw [hlen] at hj hy
   rw [List.getElem?_drop] at hx hy
   by_cases hq : j + 1 = w.length - p
   ·rw [hq, Nat.mod_self, Nat.add_zero, hat] at hy
    injection hy with hy
    subst hy
    refine he (p + j) x k ?_ ?_
    ·rw [List.getElem?_append_left (by omega)]; exact hx
    ·rw [List.getElem?_append_right (by omega)]
     have : p + j + 1 - w.length = 0 := by omega
     rw [this]; rfl
   ·rw [Nat.mod_eq_of_lt (by omega)] at hy
    refine he (p + j) x y ?_ ?_
    ·rw [List.getElem?_append_left (by omega)]; exact hx
    ·rw [List.getElem?_append_left (by omega)]; exact hy
  ·rw [if_neg hm]
   obtain ⟨h1, h2, h3, _⟩ := stepC_spec ok hb
   refine walkC_ok ok f _ _ (by simp; omega) ?_ (fun x hx => ?_) (fun x hx => ?_) h3 h2 fun j x y hx hy => ?_
   ·rw [List.nodup_append]
    refine ⟨hnd, by simp, fun a ha b hb => ?_⟩
    simp only [List.mem_singleton] at hb
    subst hb
    exact fun e => hm (e ▸ ha)
   ·rcases List.mem_append.1 hx with h | h
    ·exact hin x h
    ·simp only [List.mem_singleton] at h; subst h; omega
   ·rcases List.mem_append.1 hx with h | h
    ·exact hs x h
    ·simp only [List.mem_singleton] at h; subst h; exact hb
   ·have hjl : j + 1 < (w ++ [(k : Int)] ++ [(stepC l k : Int)]).length := (List.getElem?_eq_some_iff.1 hy).1
    simp only [List.length_append, List.length_singleton] at hjl
    by_cases hq : j + 1 < (w ++ [(k : Int)]).length
    ·rw [List.getElem?_append_left hq] at hy
     rw [List.getElem?_append_left (by omega)] at hx
     exact he j x y hx hy
    ·simp only [List.length_append, List.length_singleton] at hq
     have hjw : j = w.length := by omega
     subst hjw
     rw [List.append_assoc, List.getElem?_append_right (Nat.le_refl _)] at hx
     rw [List.append_assoc, List.getElem?_append_right (by omega)] at hy
     simp only [Nat.sub_self, Nat.add_sub_cancel_left] at hx hy
     simp at hx hy
     rw [← hx, ← hy]; exact h1
theorem rot_get {c : List Int} {e j : Nat} (he : e < c.length) (hj : j < c.length) : (c.drop e ++ c.take e)[j]? = c[(j + e) % c.length]? := by
 by_cases h : j < c.length - e
 ·rw [List.getElem?_append_left (by rw [List.length_drop]; exact h), List.getElem?_drop, Nat.mod_eq_of_lt (by omega), Nat.add_comm]
 ·rw [List.getElem?_append_right (by rw [List.length_drop]; omega), List.length_drop, List.getElem?_take, if_pos (by omega)]
  have : (j + e) % c.length = j + e - c.length := by
   rw [Nat.mod_eq_sub_mod (by omega), Nat.mod_eq_of_lt (by omega)]
  rw [this]
  congr 1; omega
theorem rotL_ok {l : List Ed} {n : Nat} : ∀ {c : List Int}, CycOk l n c → CycOk l n (rotL c) ∧ ∀ j x, (rotL c)[j]? = some x → ∀ y, (rotL c)[0]? = some y → y ≤ x ∧ (0 < j → x ≠ y)
 | [], h => absurd rfl h.ne
 | a :: r, h => by
  have hm := minI_mem r a
  have hlt := List.idxOf_lt_length_of_mem hm
  have hat : (a :: r)[(a :: r).idxOf (minI a r)]? = some (minI a r) := get_idxOf hm
  have hle : ∀ x ∈ a :: r, minI a r ≤ x := fun x hx => by
   have := minI_le r a
   rcases List.mem_cons.1 hx with rfl | q
   ·exact this.1
   ·exact this.2 x q
  have e0 : rotL (a :: r) = (a :: r).drop ((a :: r).idxOf (minI a r)) ++ (a :: r).take ((a :: r).idxOf (minI a r)) := rfl
  rw [e0]
  generalize (a :: r).idxOf (minI a r) = e at hlt hat
  generalize minI a r = m at hat hle
  generalize a :: r = c at h hlt hat hle
  have hperm : (c.drop e ++ c.take e).Perm c := by
   have := List.perm_append_comm (l₁ := c.drop e) (l₂ := c.take e)
   rwa [List.take_append_drop] at this
  have hlen : (c.drop e ++ c.take e).length = c.length := hperm.length_eq
  have hnd : (c.drop e ++ c.take e).Nodup := hperm.nodup_iff.2 h.nd
  refine ⟨⟨fun q => by rw [q] at hlen; simp at hlen; omega, hnd, fun x hx => h.rg x (hperm.mem_iff.1 hx), fun x hx => h.self x (hperm.mem_iff.1 hx), fun j x y hj hx hy => ?_⟩, fun j x hx y hy => ?_⟩
  ·rw [hlen] at hj hy
   rw [rot_get hlt hj] at hx
   rw [rot_get hlt (Nat.mod_lt _ (by omega))] at hy
   refine h.edge ((j + e) % c.length) x y (Nat.mod_lt _ (by omega)) hx ?_
   rw [← hy]
   congr 1
   rw [Nat.mod_add_mod, Nat.mod_add_mod]
   congr 1; omega
  ·have h0 : (c.drop e ++ c.take e)[0]? = some m := by rw [rot_get hlt (by omega), Nat.zero_add, Nat.mod_eq_of_lt hlt]; exact hat
   rw [h0] at hy
   injection hy with hy
   subst hy
   refine ⟨hle x (hperm.mem_iff.1 (List.mem_of_getElem? hx)), fun hj q => ?_⟩
   subst q
   have := (List.getElem?_inj (List.getElem?_eq_some_iff.1 hx).1 hnd).1 (hx.trans h0.symm)
   omega
theorem cycL_ok {l : List Ed} {n : Nat} (ok : okG n l) : (cycL l n = [] ∧ ∀ i, i < n → bhB l i i = false) ∨ (CycOk l n (cycL l n) ∧ ∀ j x, (cycL l n)[j]? = some x → ∀ y, (cycL l n)[0]? = some y → y ≤ x ∧ (0 < j → x ≠ y)) := by
 unfold cycL
 rcases findIdx_spec (p := fun i => bhB l i i) (n := n) with ⟨h1, h2⟩ | ⟨h1, h2, _⟩
 ·left
  rw [if_pos (show selfN l n = n from h2)]
  exact ⟨rfl, h1⟩
 ·right
  have hs : selfN l n < n := h1
  have hb : Bh l (selfN l n) (selfN l n) := (bhB_iff l _ _).1 h2
  rw [if_neg (by omega)]
  refine rotL_ok (walkC_ok ok (n + 1) [] (selfN l n) (by simp) (by simp) (by simp) (by simp) hs hb fun j x y hx hy => ?_)
  simp at hy
end Go.Gr
namespace Go.Gr
def PInv (l : List Ed) (u : List Int) : Prop := ∀ j x, u[j]? = some x → ∀ k : Int, (k, x) ∈ l → k ∈ u.take j
theorem grd_spec {l : List Ed} {n : Nat} : ∀ (f : Nat) (u : List Int), UInv l n u → PInv l u → n < f + u.length →
  UInv l n (grd l n f u) ∧ PInv l (grd l n f u) ∧ ∀ i, i < n → ahU l (grd l n f u) i ≠ 0
 | 0, u, hu, _, hf => by
  have := hu.len
  omega
 | f + 1, u, hu, hp, hf => by
  rw [grd]
  have hps : pickN l n u = (List.range n).findIdx fun i => ahU l u i == 0 := rfl
  have hsp := findIdx_spec (p := fun i => ahU l u i == 0) (n := n)
  rw [← hps] at hsp
  rcases hsp with ⟨h1, h2⟩ | ⟨h1, h2, _⟩
  ·rw [if_neg (by omega)]
   exact ⟨hu, hp, fun i hi => by simpa using h1 i hi⟩
  ·rw [if_pos h1]
   have h0 : ahU l u (pickN l n u) = 0 := by simpa using h2
   refine grd_spec f _ (hu.snoc h1 h0) (fun j x hj k hk => ?_) (by simp; omega)
   by_cases hjl : j < u.length
   ·rw [List.getElem?_append_left hjl] at hj
    rw [List.take_append_of_le_length (by omega)]
    exact hp j x hj k hk
   ·rw [List.getElem?_append_right (by omega)] at hj
    have hj0 : j = u.length := by
     rcases Nat.lt_or_ge (j - u.length) 1 with h | h
     ·omega
     ·rw [List.getElem?_eq_none (by simpa using h)] at hj; cases hj
    subst hj0
    simp at hj
    subst hj
    rw [List.take_append_of_le_length (Nat.le_refl _), List.take_of_length_le (Nat.le_refl _)]
    exact (ahU_zero.1 h0).2 k hk
theorem ordL_spec (l : List Ed) (n : Nat) : UInv l n (ordL l n) ∧ PInv l (ordL l n) ∧ ∀ i, i < n → ahU l (ordL l n) i ≠ 0 :=
 grd_spec (n + 1) [] (UInv.nil l n) (fun j x hj => by simp at hj) (by simp)
end Go.Gr
namespace Go.Gr
def mB (l : List Ed) (k i j a b : Nat) : Bool := if a < i ∨ a = i ∧ b < j then wsN l (k + 1) a b else wsN l k a b
theorem ws_col (l : List Ed) (k a : Nat) : wsN l (k + 1) a k = wsN l k a k := by
 show wst (wsN l k) k a k = _
 unfold wst
 cases wsN l k a k <;> simp
theorem ws_row (l : List Ed) (k b : Nat) : wsN l (k + 1) k b = wsN l k k b := by
 show wst (wsN l k) k k b = _
 unfold wst
 cases wsN l k k k <;> cases wsN l k k b <;> rfl
theorem mB_col (l : List Ed) (k i j a : Nat) : mB l k i j a k = wsN l k a k := by
 unfold mB; split
 ·exact ws_col l k a
 ·rfl
theorem mB_row (l : List Ed) (k i j b : Nat) : mB l k i j k b = wsN l k k b := by
 unfold mB; split
 ·exact ws_row l k b
 ·rfl
theorem mB_here (l : List Ed) (k i j : Nat) : mB l k i j i j = wsN l k i j := by
 unfold mB; rw [if_neg (by omega)]
theorem mB_step (l : List Ed) (k i j a b : Nat) : mB l k i (j + 1) a b = if a = i ∧ b = j then wsN l (k + 1) i j else mB l k i j a b := by
 unfold mB
 by_cases h : a = i ∧ b = j
 ·obtain ⟨rfl, rfl⟩ := h
  rw [if_pos (show a < a ∨ a = a ∧ b < b + 1 by omega), if_pos ⟨rfl, rfl⟩]
 ·rw [if_neg h]
  by_cases h2 : a < i ∨ a = i ∧ b < j
  ·rw [if_pos (by omega), if_pos h2]
  ·rw [if_neg (by omega), if_neg h2]
theorem mB_end (l : List Ed) {n : Nat} (k i a : Nat) {b : Nat} (hb : b < n) : mB l k i n a b = mB l k (i + 1) 0 a b := by
 unfold mB
 by_cases h : a < i ∨ a = i ∧ b < n
 ·rw [if_pos h, if_pos (by omega)]
 ·rw [if_neg h, if_neg (by omega)]
theorem mB_skip {l : List Ed} {k i : Nat} (h : wsN l k i k = false) (j a b : Nat) : mB l k i j a b = mB l k (i + 1) 0 a b := by
 have e : wsN l (k + 1) i b = wsN l k i b := by
  show wst (wsN l k) k i b = _
  unfold wst; rw [h]; simp
 unfold mB
 by_cases h1 : a < i
 ·rw [if_pos (.inl h1), if_pos (by omega)]
 ·by_cases h2 : a = i
  ·subst h2
   rw [if_pos (show a < a + 1 ∨ a = a + 1 ∧ b < 0 from .inl (by omega)), e]
   split <;> rfl
  ·rw [if_neg (by omega), if_neg (by omega)]
theorem mB_start (l : List Ed) (k a b : Nat) : mB l k 0 0 a b = wsN l k a b := by unfold mB; rw [if_neg (by omega)]
theorem mB_done (l : List Ed) (k : Nat) {n a : Nat} (b : Nat) (ha : a < n) : mB l k n 0 a b = wsN l (k + 1) a b := by unfold mB; rw [if_pos (.inl ha)]
end Go.Gr
namespace Go.Gr
def lstF (p : Nat → Bool) (n : Nat) : Nat → Int
 | 0 => -1
 | d + 1 => if p (n - 1 - d) then ((n - 1 - d : Nat) : Int) else lstF p n d
theorem lstF_spec (p : Nat → Bool) (n : Nat) : ∀ d, d ≤ n → ((∀ j, n - d ≤ j → j < n → p j = false) ∧ lstF p n d = -1) ∨ ∃ q : Nat, n - d ≤ q ∧ q < n ∧ p q = true ∧ (∀ j, n - d ≤ j → j < q → p j = false) ∧ lstF p n d = q
 | 0, _ => .inl ⟨fun j h1 h2 => by omega, rfl⟩
 | d + 1, h => by
  rw [lstF]
  by_cases hp : p (n - 1 - d) = true
  ·rw [if_pos hp]
   exact .inr ⟨n - 1 - d, by omega, by omega, hp, fun j h1 h2 => by omega, rfl⟩
  ·rw [if_neg hp]
   have hp : p (n - 1 - d) = false := by simpa using hp
   rcases lstF_spec p n d (by omega) with ⟨h1, h2⟩ | ⟨q, h1, h2, h3, h4, h5⟩
   ·refine .inl ⟨fun j a b => ?_, h2⟩
    by_cases e : j = n - 1 - d
    ·subst e; exact hp
    ·exact h1 j (by omega) b
   ·refine .inr ⟨q, by omega, h2, h3, fun j a b => ?_, h5⟩
    by_cases e : j = n - 1 - d
    ·subst e; exact hp
    ·exact h4 j (by omega) b
theorem lstF_all (p : Nat → Bool) (n : Nat) : lstF p n n = if (List.range n).findIdx p < n then (((List.range n).findIdx p : Nat) : Int) else -1 := by
 rcases lstF_spec p n n (Nat.le_refl _) with ⟨h1, h2⟩ | ⟨q, _, h2, h3, h4, h5⟩
 ·rw [h2, findIdx_none fun j hj => h1 j (by omega) hj, if_neg (by omega)]
 ·rw [h5, findIdx_range h2 (fun j hj => h4 j (by omega) hj) h3, if_pos h2]
def freK (l : List Ed) (u : List Int) (i k : Nat) : Bool := !u.contains (i : Int) && (List.range k).all fun x => u.contains (x : Int) || !rgB l x i
theorem freK_zero (l : List Ed) (u : List Int) (i : Nat) : freK l u i 0 = !u.contains (i : Int) := by unfold freK; simp
theorem freK_succ (l : List Ed) (u : List Int) (i k : Nat) : freK l u i (k + 1) = (freK l u i k && (u.contains (k : Int) || !rgB l k i)) := by
 unfold freK; rw [List.range_succ, List.all_append, ← Bool.and_assoc]; simp
theorem freK_all {n : Nat} {l : List Ed} (ok : okG n l) (u : List Int) (i : Nat) : freK l u i n = freeB l u i := by
 unfold freK freeB
 congr 1
 rw [Bool.eq_iff_iff, List.all_eq_true, List.all_eq_true]
 constructor
 ·intro h e he
  have hr := ok.2.2.2 e he
  have := h e.1.toNat (List.mem_range.2 (by omega))
  rw [Int.toNat_of_nonneg hr.1] at this
  rw [Bool.or_eq_true] at this ⊢
  rcases this with q | q
  ·exact .inr q
  ·left
   by_cases h2 : e.2 = (i : Int)
   ·have : rgB l e.1.toNat i = true := (rgB_iff l _ _).2 (by rw [Int.toNat_of_nonneg hr.1, ← h2]; exact he)
    rw [this] at q; cases q
   ·simpa using h2
 ·intro h x hx
  rw [Bool.or_eq_true]
  cases hr : rgB l x i with
  | false => exact .inr rfl
  | true =>
   left
   have := h _ ((rgB_iff l x i).1 hr)
   simpa using this
end Go.Gr
namespace Go.Gr
theorem find_range {p : Nat → Bool} : ∀ {n q : Nat}, q < n → p q = true → (∀ j, j < q → p j = false) → (List.range n).find? p = some q := fun {n q} hq hp h => by
 rw [List.find?_eq_some_iff_append]
 refine ⟨hp, (List.range n).take q, (List.range n).drop (q + 1), ?_, fun a ha => ?_⟩
 ·have h1 := List.take_append_drop q (List.range n)
  rw [List.drop_eq_getElem_cons (by simpa using hq), List.getElem_range] at h1
  exact h1.symm
 ·rw [List.take_range, List.mem_range] at ha
  rw [h a (by omega)]; rfl
theorem next_spec {n : Nat} {l : List Ed} (ok : okG n l) {k : Nat} (h : Bh l k k) : lstF (fun i => rgB l k i && wsN l n i k) n n = (stepC l k : Int) := by
 obtain ⟨h1, _, h3, h4⟩ := stepC_spec ok h
 have hp : (rgB l k (stepC l k) && wsN l n (stepC l k) k) = true := by
  rw [Bool.and_eq_true, rgB_iff, ← wsN_bh ok, bhB_iff]; exact ⟨h1, h4⟩
 rw [lstF_all]
 rcases findIdx_spec (p := fun i => rgB l k i && wsN l n i k) (n := n) with ⟨q, _⟩ | ⟨q1, q2, q3⟩
 ·rw [q _ h3] at hp; cases hp
 ·rw [if_pos q1]
  rw [stepB_eq ok, stepB, find_range q1 q2 q3]; rfl
def lsF (L : List Int) : Nat → Nat
 | 0 => 0
 | i + 1 => if L.getD i 0 < L.getD (lsF L i) 0 then i else lsF L i
theorem lsF_spec (L : List Int) : ∀ i, 0 < i → lsF L i < i ∧ (∀ j, j < i → L.getD (lsF L i) 0 ≤ L.getD j 0) ∧ ∀ j, j < lsF L i → L.getD (lsF L i) 0 < L.getD j 0
 | 1, _ => by
  have e : lsF L 1 = 0 := by rw [lsF]; split <;> rfl
  rw [e]
  refine ⟨by omega, fun j hj => ?_, fun j hj => by omega⟩
  have : j = 0 := by omega
  subst this; exact Int.le_refl _
 | i + 2, _ => by
  obtain ⟨h1, h2, h3⟩ := lsF_spec L (i + 1) (by omega)
  rw [lsF]
  by_cases h : L.getD (i + 1) 0 < L.getD (lsF L (i + 1)) 0
  ·rw [if_pos h]
   refine ⟨by omega, fun j hj => ?_, fun j hj => ?_⟩
   ·by_cases e : j = i + 1
    ·subst e; exact Int.le_refl _
    ·have := h2 j (by omega); omega
   ·have := h2 j (by omega); omega
  ·rw [if_neg h]
   refine ⟨by omega, fun j hj => ?_, h3⟩
   by_cases e : j = i + 1
   ·subst e; omega
   ·exact h2 j (by omega)
theorem getD_get (L : List Int) {j : Nat} (h : j < L.length) : L[j]? = some (L.getD j 0) := by
 rw [List.getD_eq_getElem?_getD, List.getElem?_eq_getElem h]; rfl
theorem lsF_end (x : Int) (r : List Int) : lsF (x :: r) (x :: r).length = (x :: r).idxOf (minI x r) := by
 obtain ⟨h1, h2, h3⟩ := lsF_spec (x :: r) (x :: r).length (by simp)
 generalize hq : lsF (x :: r) (x :: r).length = q at h1 h2 h3
 have hm := minI_mem r x
 have hle : ∀ y ∈ x :: r, minI x r ≤ y := fun y hy => by
  have := minI_le r x
  rcases List.mem_cons.1 hy with rfl | hh
  ·exact this.1
  ·exact this.2 y hh
 have hgq := getD_get (x :: r) h1
 have e : (x :: r).getD q 0 = minI x r := by
  have a := hle _ (List.mem_of_getElem? hgq)
  obtain ⟨j, hj⟩ := List.getElem?_of_mem hm
  have hjl := (List.getElem?_eq_some_iff.1 hj).1
  have b := h2 j hjl
  rw [getD_get _ hjl] at hj
  injection hj with hj
  omega
 rw [e] at hgq
 refine (idxOf_at hgq fun hmem => ?_).symm
 obtain ⟨j, hj⟩ := List.getElem?_of_mem hmem
 rw [List.getElem?_take] at hj
 split at hj
 ·rename_i hjq
  have := h3 j hjq
  rw [getD_get _ (by omega)] at hj
  injection hj with hj
  omega
 ·cases hj
def plW (u : List Int) (j : Nat) : Int := if (j : Int) ∈ u then ((u.idxOf (j : Int) : Nat) : Int) + 1 else 0
theorem plW_snoc {u : List Int} {k : Nat} (h : (k : Int) ∉ u) (j : Nat) : plW (u ++ [(k : Int)]) j = if j = k then ((u.length + 1 : Nat) : Int) else plW u j := by
 unfold plW
 by_cases e : j = k
 ·subst e
  rw [if_pos (by simp), if_pos rfl]
  have : (u ++ [(j : Int)]).idxOf (j : Int) = u.length := idxOf_at (by simp) (by rw [List.take_append_of_le_length (Nat.le_refl _), List.take_of_length_le (Nat.le_refl _)]; exact h)
  rw [this]; omega
 ·have hne : (j : Int) ≠ k := by omega
  rw [if_neg e]
  by_cases hu : (j : Int) ∈ u
  ·rw [if_pos (by simp [hu]), if_pos hu]
   have hi := get_idxOf hu
   have hlt := List.idxOf_lt_length_of_mem hu
   have : (u ++ [(k : Int)]).idxOf (j : Int) = u.idxOf (j : Int) := by
    refine idxOf_at (by rw [List.getElem?_append_left hlt]; exact hi) ?_
    rw [List.take_append_of_le_length (by omega)]
    intro hm
    obtain ⟨t, ht⟩ := List.getElem?_of_mem hm
    rw [List.getElem?_take] at ht
    split at ht
    ·rename_i htl
     have := List.not_of_lt_findIdx (xs := u) (p := (· == (j : Int))) (i := t) htl
     have ht2 := (List.getElem?_eq_some_iff.1 ht)
     obtain ⟨hl, he⟩ := ht2
     simp [he] at this
    ·cases ht
   rw [this]
  ·rw [if_neg (by simp [hu, hne]), if_neg hu]
end Go.Gr
