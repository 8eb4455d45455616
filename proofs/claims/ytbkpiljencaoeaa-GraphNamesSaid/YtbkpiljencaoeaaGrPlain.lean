/- The plain law of graphs (1): numbers in order, each once; edges by their first nodes. No program in sight. -/
import Derived.Test.YtbkpiljencaoeaaSxCore
set_option linter.unusedSimpArgs false
set_option linter.unusedVariables false
set_option linter.unnecessarySimpa false
namespace Go.Gr
open Go Go.Sx
def isV (l : List Int) : List Value := l.map fun n => .int .i64 n
theorem isV_len (l : List Int) : (isV l).length = l.length := by simp [isV]
theorem isV_get (l : List Int) (j : Nat) (x : Int) (h : l[j]? = some x) : (isV l)[j]? = some (.int .i64 x) := by
 unfold isV; rw [List.getElem?_map, h]; rfl
def dpI : List Int → List Int
 | [] => []
 | [x] => [x]
 | x :: y :: r => if x = y then dpI (y :: r) else x :: dpI (y :: r)
theorem dpI_snoc (y : Int) : ∀ (l : List Int) (x : Int), dpI (l ++ [x] ++ [y]) = if x = y then dpI (l ++ [x]) else dpI (l ++ [x]) ++ [y]
 | [], x => by
  by_cases h : x = y
  ·subst h; simp [dpI]
  ·simp [dpI, h]
 | [a], x => by
  have := dpI_snoc y [] x
  simp only [List.nil_append, List.cons_append] at *
  by_cases h : a = x
  ·simp only [dpI, h, if_true] at *
   split <;> simp_all
  ·simp only [dpI, h, if_false] at *
   split <;> simp_all
 | a :: c :: l, x => by
  have := dpI_snoc y (c :: l) x
  simp only [List.cons_append] at *
  by_cases h : a = c
  ·simp only [dpI, h, if_true] at *
   exact this
  ·simp only [dpI, h, if_false] at *
   rw [this]
   split <;> simp
theorem takeI_snoc {l : List Int} {k : Nat} {x : Int} (h : l[k]? = some x) : l.take (k + 1) = l.take k ++ [x] := by
 rw [List.take_add_one, h]; rfl
theorem dpI_step {l : List Int} {k : Nat} {x y : Int} (hx : l[k]? = some x) (hy : l[k + 1]? = some y) : dpI (l.take (k + 2)) = if x = y then dpI (l.take (k + 1)) else dpI (l.take (k + 1)) ++ [y] := by
 rw [takeI_snoc hy, takeI_snoc hx]
 exact dpI_snoc y _ x
theorem dpI_len : ∀ (l : List Int), (dpI l).length ≤ l.length
 | [] => by simp [dpI]
 | [x] => by simp [dpI]
 | x :: y :: r => by
  have := dpI_len (y :: r)
  simp only [dpI]
  split <;> simp at * <;> omega
def srtI (l : List Int) : List Int := l.mergeSort fun x y => decide (x ≤ y)
theorem srtI_up (l : List Int) : (srtI l).Pairwise (· ≤ ·) := by
 have := List.pairwise_mergeSort (le := fun x y : Int => decide (x ≤ y)) (fun a b c h1 h2 => by simp at *; omega) (fun a b => by simp; omega) l
 exact this.imp fun h => by simpa using h
theorem srtI_mem (l : List Int) (x : Int) : x ∈ srtI l ↔ x ∈ l := (List.mergeSort_perm l _).mem_iff
theorem dpI_mem (x : Int) : ∀ (l : List Int), x ∈ dpI l ↔ x ∈ l
 | [] => by simp [dpI]
 | [a] => by simp [dpI]
 | a :: b :: r => by
  have ih := dpI_mem x (b :: r)
  simp only [dpI]
  split
  ·rename_i h
   subst h
   rw [ih]; simp
  ·rw [List.mem_cons, ih, List.mem_cons (a := x) (b := a)]
theorem dpI_up : ∀ (l : List Int), l.Pairwise (· ≤ ·) → (dpI l).Pairwise (· < ·)
 | [], _ => by simp [dpI]
 | [a], _ => by simp [dpI]
 | a :: b :: r, h => by
  obtain ⟨h1, h2⟩ := List.pairwise_cons.1 h
  have ih := dpI_up (b :: r) h2
  simp only [dpI]
  split
  ·exact ih
  ·rename_i hne
   refine List.pairwise_cons.2 ⟨fun x hx => ?_, ih⟩
   rw [dpI_mem] at hx
   have h3 := h1 b (by simp)
   have h4 : b ≤ x := by
    rcases List.mem_cons.1 hx with h | h
    ·subst h; exact Int.le_refl _
    ·exact (List.pairwise_cons.1 h2).1 x h
   omega
def upI (l : List Int) : List Int := dpI (srtI l)
theorem upI_mem (l : List Int) (x : Int) : x ∈ upI l ↔ x ∈ l := by unfold upI; rw [dpI_mem, srtI_mem]
theorem upI_up (l : List Int) : (upI l).Pairwise (· < ·) := dpI_up _ (srtI_up l)
theorem srtI_len (l : List Int) : (srtI l).length = l.length := List.length_mergeSort _
theorem upI_len (l : List Int) : (upI l).length ≤ l.length := by
 have := dpI_len (srtI l)
 rw [srtI_len] at this; exact this
theorem upI_nil : upI [] = [] := List.length_eq_zero_iff.1 (by have := upI_len []; simpa using this)
theorem up_ext : ∀ {l m : List Int}, l.Pairwise (· < ·) → m.Pairwise (· < ·) → (∀ x, x ∈ l ↔ x ∈ m) → l = m
 | [], [], _, _, _ => rfl
 | [], b :: m, _, _, h => absurd ((h b).2 (by simp)) (by simp)
 | a :: l, [], _, _, h => absurd ((h a).1 (by simp)) (by simp)
 | a :: l, b :: m, hl, hm, h => by
  obtain ⟨h1, h2⟩ := List.pairwise_cons.1 hl
  obtain ⟨k1, k2⟩ := List.pairwise_cons.1 hm
  have e : a = b := by
   have p := (h a).1 (by simp)
   have q := (h b).2 (by simp)
   rcases List.mem_cons.1 p with p | p
   ·exact p
   ·rcases List.mem_cons.1 q with q | q
    ·exact q.symm
    ·have := h1 b q; have := k1 a p; omega
  subst e
  congr 1
  refine up_ext h2 k2 fun x => ⟨fun hx => ?_, fun hx => ?_⟩
  ·rcases List.mem_cons.1 ((h x).1 (by simp [hx])) with e | e
   ·subst e; have := h1 x hx; omega
   ·exact e
  ·rcases List.mem_cons.1 ((h x).2 (by simp [hx])) with e | e
   ·subst e; have := k1 x hx; omega
   ·exact e
end Go.Gr
namespace Go.Gr
abbrev Ed := Int × Int
def okG (n : Int) (l : List Ed) : Prop := 0 ≤ n ∧ n ≤ 500 ∧ l.length ≤ 20000 ∧ ∀ e ∈ l, 0 ≤ e.1 ∧ e.1 < n ∧ 0 ≤ e.2 ∧ e.2 < n
instance (n : Int) (l : List Ed) : Decidable (okG n l) := by unfold okG; infer_instance
def nxR (l : List Ed) (k : Int) : List Int := (l.filter fun e => e.1 == k).map (·.2)
def keysR : List Ed → List Int → List Int
 | [], ks => ks
 | e :: l, ks => keysR l (if e.1 ∈ ks then ks else ks ++ [e.1])
def keyT (l : List Ed) (i : Nat) : List Int := keysR (l.take i) []
theorem keysR_snoc : ∀ (l : List Ed) (e : Ed) (ks : List Int), keysR (l ++ [e]) ks = if e.1 ∈ keysR l ks then keysR l ks else keysR l ks ++ [e.1]
 | [], e, ks => rfl
 | x :: l, e, ks => by
  show keysR (l ++ [e]) _ = _
  rw [keysR_snoc l e]; rfl
theorem keysR_mem : ∀ (l : List Ed) (ks : List Int) (k : Int), k ∈ keysR l ks ↔ k ∈ ks ∨ ∃ e ∈ l, e.1 = k
 | [], ks, k => by simp [keysR]
 | x :: l, ks, k => by
  simp only [keysR]
  rw [keysR_mem l]
  split
  ·rename_i h
   constructor
   ·rintro (h1 | ⟨e, h1, h2⟩)
    ·exact .inl h1
    ·exact .inr ⟨e, by simp [h1], h2⟩
   ·rintro (h1 | ⟨e, h1, h2⟩)
    ·exact .inl h1
    ·rcases List.mem_cons.1 h1 with rfl | h1
     ·left; rw [← h2]; exact h
     ·exact .inr ⟨e, h1, h2⟩
  ·constructor
   ·rintro (h1 | ⟨e, h1, h2⟩)
    ·rcases List.mem_append.1 h1 with h1 | h1
     ·exact .inl h1
     ·simp only [List.mem_singleton] at h1
      exact .inr ⟨x, by simp, h1.symm⟩
    ·exact .inr ⟨e, by simp [h1], h2⟩
   ·rintro (h1 | ⟨e, h1, h2⟩)
    ·exact .inl (by simp [h1])
    ·rcases List.mem_cons.1 h1 with rfl | h1
     ·left; simp [h2]
     ·exact .inr ⟨e, h1, h2⟩
theorem keysR_nodup : ∀ (l : List Ed) (ks : List Int), ks.Nodup → (keysR l ks).Nodup
 | [], ks, h => h
 | x :: l, ks, h => by
  simp only [keysR]
  refine keysR_nodup l _ ?_
  split
  ·exact h
  ·rename_i hx
   rw [List.nodup_append]
   refine ⟨h, by simp, fun a ha b hb => ?_⟩
   simp only [List.mem_singleton] at hb
   subst hb
   exact fun e => hx (e ▸ ha)
theorem nxR_snoc (l : List Ed) (e : Ed) (k : Int) : nxR (l ++ [e]) k = if k = e.1 then nxR l k ++ [e.2] else nxR l k := by
 unfold nxR
 rw [List.filter_append, List.map_append]
 by_cases h : k = e.1
 ·subst h; rw [if_pos rfl]; simp
 ·rw [if_neg h]
  have : (e.1 == k) = false := by simpa using fun q => h q.symm
  simp [this]
theorem nxR_none {l : List Ed} {k : Int} (h : k ∉ keysR l []) : nxR l k = [] := by
 unfold nxR
 rw [List.map_eq_nil_iff, List.filter_eq_nil_iff]
 intro e he hk
 refine h ((keysR_mem l [] k).2 (.inr ⟨e, he, by simpa using hk⟩))
theorem nxR_len (l : List Ed) (k : Int) : (nxR l k).length ≤ l.length := by
 unfold nxR; rw [List.length_map]; exact List.length_filter_le _ _
theorem nxR_mem (l : List Ed) (k x : Int) : x ∈ nxR l k ↔ (k, x) ∈ l := by
 unfold nxR
 simp only [List.mem_map, List.mem_filter, beq_iff_eq]
 constructor
 ·rintro ⟨e, ⟨h1, h2⟩, h3⟩
  obtain ⟨a, b⟩ := e
  simp only at h2 h3
  subst h2; subst h3; exact h1
 ·exact fun h => ⟨(k, x), ⟨h, rfl⟩, rfl⟩
def nxU (l : List Ed) (k : Int) : List Int := upI (nxR l k)
theorem nxU_mem (l : List Ed) (k x : Int) : x ∈ nxU l k ↔ (k, x) ∈ l := by unfold nxU; rw [upI_mem, nxR_mem]
theorem nxU_len (l : List Ed) (k : Int) : (nxU l k).length ≤ l.length := Nat.le_trans (upI_len _) (nxR_len l k)
end Go.Gr
