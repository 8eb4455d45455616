/- The plain law of clocks: what happened ahead of what, and what clocks tell of it. No program in sight. -/
set_option linter.unusedSimpArgs false
set_option linter.unusedVariables false
set_option linter.unnecessarySimpa false
namespace Go.Clk
structure Sy where
 core : Int
 kind : Int
 addr : Int
deriving DecidableEq
def dfl : Sy := ⟨0, 0, 0⟩
def at' (l : List Sy) (i : Nat) : Sy := l.getD i dfl
def co (l : List Sy) (i : Nat) : Nat := (at' l i).core.toNat
def okS (x : Sy) : Prop := 0 ≤ x.core ∧ x.core < 4 ∧ 1 ≤ x.kind ∧ x.kind ≤ 4 ∧ 0 ≤ x.addr
instance (x : Sy) : Decidable (okS x) := by unfold okS; infer_instance
abbrev Ck := Nat → Int
def join (a b : Ck) : Ck := fun j => max (a j) (b j)
def inc (c : Ck) (p : Nat) : Ck := fun j => if j = p then c j + 1 else c j
structure St where
 cores : Nat → Ck
 objs : Int → Ck
def newC (s : St) (x : Sy) : Ck := if x.kind = 4 then join (inc (s.cores x.core.toNat) x.core.toNat) (s.objs x.addr) else inc (s.cores x.core.toNat) x.core.toNat
def stp (s : St) (x : Sy) : St :=
 { cores := fun p => if p = x.core.toNat then newC s x else s.cores p, objs := fun a => if x.kind = 3 ∧ a = x.addr then join (s.objs a) (newC s x) else s.objs a }
def st (l : List Sy) : Nat → St
 | 0 => ⟨fun _ _ => 0, fun _ _ => 0⟩
 | n + 1 => stp (st l n) (at' l n)
def clk (l : List Sy) (k : Nat) : Ck := newC (st l k) (at' l k)
def cnt (l : List Sy) (j : Nat) : Nat → Nat
 | 0 => 0
 | n + 1 => cnt l j n + if co l n = j then 1 else 0
def rank (l : List Sy) (i : Nat) : Nat := cnt l (co l i) i + 1
theorem cnt_mono (l : List Sy) (j : Nat) {a b : Nat} (h : a ≤ b) : cnt l j a ≤ cnt l j b := by
 induction b with
 | zero => have : a = 0 := by omega
           subst this; exact Nat.le_refl _
 | succ n ih =>
  by_cases e : a = n + 1
  ·subst e; exact Nat.le_refl _
  ·have := ih (by omega); simp only [cnt]; omega
theorem rank_le (l : List Sy) {i n : Nat} (h : i < n) : rank l i ≤ cnt l (co l i) n := by
 have := cnt_mono l (co l i) (show i + 1 ≤ n from h)
 simp only [cnt, if_true] at this
 unfold rank; omega
theorem rank_ex (l : List Sy) (j : Nat) : ∀ (n r : Nat), 1 ≤ r → r ≤ cnt l j n → ∃ m, m < n ∧ co l m = j ∧ rank l m = r
 | 0, r, h1, h2 => by simp [cnt] at h2; omega
 | n + 1, r, h1, h2 => by
  by_cases h : r ≤ cnt l j n
  ·obtain ⟨m, h3, h4⟩ := rank_ex l j n r h1 h
   exact ⟨m, by omega, h4⟩
  ·simp only [cnt] at h2
   split at h2
   ·rename_i hc
    exact ⟨n, by omega, hc, by unfold rank; rw [hc]; omega⟩
   ·omega
def D (l : List Sy) (i k : Nat) : Prop := i < k ∧ (co l i = co l k ∨ ((at' l i).kind = 3 ∧ (at' l k).kind = 4 ∧ (at' l i).addr = (at' l k).addr))
inductive HB (l : List Sy) : Nat → Nat → Prop
 | base {i k : Nat} (h : D l i k) : HB l i k
 | step {i j k : Nat} (h : HB l i j) (d : D l j k) : HB l i k
def HBE (l : List Sy) (i k : Nat) : Prop := i = k ∨ HB l i k
theorem HB.lt {l : List Sy} {i k : Nat} (h : HB l i k) : i < k := by
 induction h with
 | base h => exact h.1
 | step _ d ih => have := d.1; omega
theorem HB.trans {l : List Sy} {i j k : Nat} (h : HB l i j) (q : HB l j k) : HB l i k := by
 induction q with
 | base d => exact h.step d
 | step _ d ih => exact ih.step d
theorem HBE.le {l : List Sy} {i k : Nat} (h : HBE l i k) : i ≤ k := by
 rcases h with rfl | h
 ·exact Nat.le_refl _
 ·have := h.lt; omega
theorem HB.last {l : List Sy} {i k : Nat} : HB l i k ↔ ∃ m, HBE l i m ∧ D l m k := by
 constructor
 ·intro h
  cases h with
  | base d => exact ⟨i, .inl rfl, d⟩
  | step h d => exact ⟨_, .inr h, d⟩
 ·rintro ⟨m, rfl | h, d⟩
  ·exact .base d
  ·exact h.step d
structure Inv (l : List Sy) (n : Nat) : Prop where
 i1 : ∀ p i, i < n → ((rank l i : Int) ≤ (st l n).cores p (co l i) ↔ ∃ m, m < n ∧ co l m = p ∧ HBE l i m)
 i2 : ∀ a i, i < n → ((rank l i : Int) ≤ (st l n).objs a (co l i) ↔ ∃ m, m < n ∧ ((at' l m).kind = 3 ∧ (at' l m).addr = a) ∧ HBE l i m)
 c3 : ∀ p j, 0 ≤ (st l n).cores p j ∧ (st l n).cores p j ≤ cnt l j n
 o3 : ∀ a j, 0 ≤ (st l n).objs a j ∧ (st l n).objs a j ≤ cnt l j n
 i4 : ∀ p, (st l n).cores p p = cnt l p n
theorem Inv.newLe {l : List Sy} {n : Nat} (h : Inv l n) (j : Nat) : 0 ≤ clk l n j ∧ clk l n j ≤ cnt l j (n + 1) := by
 have h1 := h.c3 (co l n) j
 have h2 := h.o3 (at' l n).addr j
 have hi : 0 ≤ inc ((st l n).cores (co l n)) (co l n) j ∧ inc ((st l n).cores (co l n)) (co l n) j ≤ cnt l j (n + 1) := by
  simp only [inc, cnt]
  split
  ·rename_i e; subst e; simp; omega
  ·rename_i e; rw [if_neg (fun q => e q.symm)]; simp; omega
 have hm := cnt_mono l j (show n ≤ n + 1 by omega)
 show 0 ≤ newC (st l n) (at' l n) j ∧ newC (st l n) (at' l n) j ≤ cnt l j (n + 1)
 unfold newC
 change _ ∧ _
 split
 ·simp only [join]
  have e : (at' l n).core.toNat = co l n := rfl
  rw [e]; omega
 ·exact hi
theorem Inv.own {l : List Sy} {n : Nat} (h : Inv l n) : clk l n (co l n) = rank l n := by
 have h1 := h.i4 (co l n)
 have h2 := h.o3 (at' l n).addr (co l n)
 have e : (at' l n).core.toNat = co l n := rfl
 show newC (st l n) (at' l n) (co l n) = rank l n
 unfold newC rank
 rw [e]
 split
 ·simp only [join, inc, if_true]; omega
 ·simp only [inc, if_true]; omega
theorem Inv.tell {l : List Sy} {n : Nat} (h : Inv l n) {i : Nat} (hi : i < n) : (rank l i : Int) ≤ clk l n (co l i) ↔ HB l i n := by
 have h1 := h.i1 (co l n) i hi
 have h2 := h.i2 (at' l n).addr i hi
 have e : (at' l n).core.toNat = co l n := rfl
 have hinc : (rank l i : Int) ≤ inc ((st l n).cores (co l n)) (co l n) (co l i) ↔ (rank l i : Int) ≤ (st l n).cores (co l n) (co l i) := by
  simp only [inc]
  split
  ·rename_i q
   rw [q, h.i4]
   have := rank_le l hi
   rw [q] at this
   omega
  ·exact Iff.rfl
 show (rank l i : Int) ≤ newC (st l n) (at' l n) (co l i) ↔ _
 unfold newC
 rw [e, HB.last]
 split
 ·rename_i hk
  have : (rank l i : Int) ≤ join (inc ((st l n).cores (co l n)) (co l n)) ((st l n).objs (at' l n).addr) (co l i) ↔ (rank l i : Int) ≤ inc ((st l n).cores (co l n)) (co l n) (co l i) ∨ (rank l i : Int) ≤ (st l n).objs (at' l n).addr (co l i) := by
   simp only [join]; omega
  rw [this, hinc, h1, h2]
  constructor
  ·rintro (⟨m, q1, q2, q3⟩ | ⟨m, q1, ⟨q2, q3⟩, q4⟩)
   ·exact ⟨m, q3, q1, .inl q2⟩
   ·exact ⟨m, q4, q1, .inr ⟨q2, hk, q3⟩⟩
  ·rintro ⟨m, q1, q2, q3 | ⟨q3, _, q4⟩⟩
   ·exact .inl ⟨m, q2, q3, q1⟩
   ·exact .inr ⟨m, q2, ⟨q3, q4⟩, q1⟩
 ·rename_i hk
  rw [hinc, h1]
  constructor
  ·rintro ⟨m, q1, q2, q3⟩
   exact ⟨m, q3, q1, .inl q2⟩
  ·rintro ⟨m, q1, q2, q3 | ⟨_, q4, _⟩⟩
   ·exact ⟨m, q2, q3, q1⟩
   ·exact absurd q4 hk
theorem inv (l : List Sy) : ∀ n, Inv l n
 | 0 => ⟨fun _ i h => by omega, fun _ i h => by omega, fun p j => by simp [st, cnt], fun p j => by simp [st, cnt], fun p => by simp [st, cnt]⟩
 | n + 1 => by
  have h := inv l n
  have e : (at' l n).core.toNat = co l n := rfl
  have ec : ∀ p, (st l (n + 1)).cores p = if p = co l n then clk l n else (st l n).cores p := fun p => rfl
  have eo : ∀ a, (st l (n + 1)).objs a = if (at' l n).kind = 3 ∧ a = (at' l n).addr then join ((st l n).objs a) (clk l n) else (st l n).objs a := fun a => rfl
  have hself : (rank l n : Int) ≤ clk l n (co l n) := by rw [h.own]; exact Int.le_refl _
  have no : ∀ m, m < n → ¬ HBE l n m := fun m hm q => by have := q.le; omega
  constructor
  ·intro p i hi
   rw [ec]
   split
   ·rename_i hp
    subst hp
    by_cases hin : i = n
    ·subst hin
     exact ⟨fun _ => ⟨i, by omega, rfl, .inl rfl⟩, fun _ => hself⟩
    ·rw [h.tell (by omega)]
     constructor
     ·intro q; exact ⟨n, by omega, rfl, .inr q⟩
     ·rintro ⟨m, q1, q2, q3⟩
      by_cases hm : m = n
      ·subst hm; exact q3.resolve_left hin
      ·exact HB.last.2 ⟨m, q3, by omega, .inl q2⟩
   ·rename_i hp
    by_cases hin : i = n
    ·subst hin
     have := (h.c3 p (co l i)).2
     constructor
     ·intro q; unfold rank at q; omega
     ·rintro ⟨m, q1, q2, q3⟩
      by_cases hm : m = i
      ·subst hm; exact absurd q2.symm hp
      ·exact absurd q3 (no m (by omega))
    ·rw [h.i1 p i (by omega)]
     constructor
     ·rintro ⟨m, q1, q2⟩; exact ⟨m, by omega, q2⟩
     ·rintro ⟨m, q1, q2, q3⟩
      by_cases hm : m = n
      ·subst hm; exact absurd q2.symm hp
      ·exact ⟨m, by omega, q2, q3⟩
  ·intro a i hi
   rw [eo]
   split
   ·rename_i hp
    have : (rank l i : Int) ≤ join ((st l n).objs a) (clk l n) (co l i) ↔ (rank l i : Int) ≤ (st l n).objs a (co l i) ∨ (rank l i : Int) ≤ clk l n (co l i) := by
     simp only [join]; omega
    rw [this]
    by_cases hin : i = n
    ·subst hin
     exact ⟨fun _ => ⟨i, by omega, ⟨hp.1, hp.2.symm⟩, .inl rfl⟩, fun _ => .inr hself⟩
    ·rw [h.i2 a i (by omega), h.tell (by omega)]
     constructor
     ·rintro (⟨m, q1, q2⟩ | q)
      ·exact ⟨m, by omega, q2⟩
      ·exact ⟨n, by omega, ⟨hp.1, hp.2.symm⟩, .inr q⟩
     ·rintro ⟨m, q1, q2, q3⟩
      by_cases hm : m = n
      ·subst hm; exact .inr (q3.resolve_left hin)
      ·exact .inl ⟨m, by omega, q2, q3⟩
   ·rename_i hp
    by_cases hin : i = n
    ·subst hin
     have := (h.o3 a (co l i)).2
     constructor
     ·intro q; unfold rank at q; omega
     ·rintro ⟨m, q1, q2, q3⟩
      by_cases hm : m = i
      ·subst hm; exact absurd ⟨q2.1, q2.2.symm⟩ hp
      ·exact absurd q3 (no m (by omega))
    ·rw [h.i2 a i (by omega)]
     constructor
     ·rintro ⟨m, q1, q2⟩; exact ⟨m, by omega, q2⟩
     ·rintro ⟨m, q1, q2, q3⟩
      by_cases hm : m = n
      ·subst hm; exact absurd ⟨q2.1, q2.2.symm⟩ hp
      ·exact ⟨m, by omega, q2, q3⟩
  ·intro p j
   rw [ec]
   split
   ·exact h.newLe j
   ·have := h.c3 p j
    have hm := cnt_mono l j (show n ≤ n + 1 by omega)
    omega
  ·intro a j
   have h1 := h.o3 a j
   have h2 := h.newLe j
   have hm := cnt_mono l j (show n ≤ n + 1 by omega)
   rw [eo]
   split
   ·simp only [join]; omega
   ·omega
  ·intro p
   rw [ec]
   split
   ·rename_i hp; subst hp
    rw [h.own]; simp only [cnt, if_true, rank]
   ·rename_i hp
    rw [h.i4]; simp only [cnt]; rw [if_neg (fun q => hp q.symm)]; simp
theorem clk_nn (l : List Sy) (k j : Nat) : 0 ≤ clk l k j := ((inv l k).newLe j).1
theorem clk_le (l : List Sy) (k j : Nat) : clk l k j ≤ cnt l j (k + 1) := ((inv l k).newLe j).2
theorem clk_own (l : List Sy) (k : Nat) : clk l k (co l k) = rank l k := (inv l k).own
theorem tell (l : List Sy) {i k : Nat} (h : i < k) : (rank l i : Int) ≤ clk l k (co l i) ↔ HB l i k := (inv l k).tell h
theorem cnt_len (l : List Sy) (j : Nat) : ∀ n, cnt l j n ≤ n
 | 0 => Nat.le_refl _
 | n + 1 => by have := cnt_len l j n; simp only [cnt]; split <;> omega
theorem clk_small (l : List Sy) (k j : Nat) : clk l k j ≤ k + 1 := by
 have := clk_le l k j; have := cnt_len l j (k + 1); omega
def bel (a b : Ck) : Prop := ∀ j, j < 4 → a j ≤ b j
theorem bel_HB (l : List Sy) {i k : Nat} (hi : co l i < 4) (h : i < k) : bel (clk l i) (clk l k) ↔ HB l i k := by
 constructor
 ·intro q
  have := q _ hi
  rw [clk_own] at this
  exact (tell l h).1 this
 ·intro q j _
  by_cases hr : clk l i j ≤ 0
  ·have := clk_nn l k j; omega
  ·obtain ⟨m, h1, h2, h3⟩ := rank_ex l j (i + 1) (clk l i j).toNat (by omega) (by have := clk_le l i j; omega)
   subst h2
   have hm : HB l m k := by
    by_cases e : m = i
    ·subst e; exact q
    ·exact ((tell l (show m < i by omega)).1 (by omega)).trans q
   have := (tell l hm.lt).2 hm
   omega
def cntP (l : List Sy) (j : Nat) (f : Nat → Bool) : Nat → Nat
 | 0 => 0
 | n + 1 => cntP l j f n + if f n = true ∧ co l n = j then 1 else 0
theorem cntP_rank (l : List Sy) (j r : Nat) (f : Nat → Bool) (n : Nat) (hf : ∀ i, i < n → co l i = j → (f i = true ↔ rank l i ≤ r)) : cntP l j f n = min r (cnt l j n) := by
 induction n with
 | zero => simp [cntP, cnt]
 | succ n ih =>
  simp only [cntP, cnt]
  rw [ih fun i hi => hf i (by omega)]
  by_cases hc : co l n = j
  ·have := hf n (by omega) hc
   have hr : rank l n = cnt l j n + 1 := by unfold rank; rw [hc]
   by_cases hfn : f n = true
   ·have := this.1 hfn
    simp [hc, hfn]; omega
   ·have : ¬ rank l n ≤ r := fun q => hfn (this.2 q)
    simp [hc, hfn]; omega
  ·simp [hc]
theorem clk_sum (l : List Sy) (k j : Nat) (f : Nat → Bool) (hf : ∀ i, i < k → (f i = true ↔ HB l i k)) : (cntP l j f k : Int) + (if co l k = j then 1 else 0) = clk l k j := by
 have hn := clk_nn l k j
 have h1 := cntP_rank l j (clk l k j).toNat f k fun i hi hc => by
  rw [hf i hi, ← tell l hi, hc]; omega
 rw [h1]
 by_cases hc : co l k = j
 ·subst hc
  have := clk_own l k
  unfold rank at this
  simp; omega
 ·have := clk_le l k j
  simp only [cnt, if_neg hc] at this
  simp [hc]; omega
def skip (n i : Nat) : Nat := if i < n then i else i + 1
end Go.Clk
namespace Go.Clk
open Classical
noncomputable def colB (l : List Sy) (k i0 a : Nat) : Bool := decide (∃ i, i0 ≤ i ∧ i < k ∧ D l i k ∧ HBE l a i)
noncomputable def hbB (l : List Sy) (a b : Nat) : Bool := decide (HB l a b)
noncomputable def mat0 (l : List Sy) (k i0 a b : Nat) : Bool := if b < k then hbB l a b else if b = k then colB l k i0 a else false
noncomputable def mat1 (l : List Sy) (k i m0 a b : Nat) : Bool := if b = k then (if a = i ∨ a < m0 then colB l k i a else colB l k (i + 1) a) else mat0 l k (i + 1) a b
theorem col_end (l : List Sy) {k i0 : Nat} (h : k ≤ i0) (a : Nat) : colB l k i0 a = false := by
 unfold colB; rw [decide_eq_false_iff_not]; rintro ⟨i, h1, h2, _⟩; omega
theorem col_zero (l : List Sy) (k a : Nat) : colB l k 0 a = hbB l a k := by
 unfold colB hbB
 congr 1
 rw [eq_iff_iff, HB.last]
 constructor
 ·rintro ⟨i, _, _, h1, h2⟩; exact ⟨i, h2, h1⟩
 ·rintro ⟨i, h2, h1⟩; exact ⟨i, by omega, h1.1, h1, h2⟩
theorem mat0_start (l : List Sy) (a b : Nat) : mat0 l 0 0 a b = false := by
 unfold mat0; rw [if_neg (by omega)]; split
 ·exact col_end l (by omega) a
 ·rfl
theorem mat0_next (l : List Sy) (k a b : Nat) : mat0 l k 0 a b = mat0 l (k + 1) (k + 1) a b := by
 unfold mat0
 by_cases h1 : b < k
 ·rw [if_pos h1, if_pos (by omega)]
 ·rw [if_neg h1]
  by_cases h2 : b = k
  ·subst h2; rw [if_pos rfl, if_pos (by omega), col_zero]
  ·rw [if_neg h2, if_neg (by omega)]
   split
   ·exact (col_end l (by omega) a).symm
   ·rfl
theorem col_skip {l : List Sy} {k i : Nat} (h : ¬ D l i k) (a : Nat) : colB l k i a = colB l k (i + 1) a := by
 unfold colB
 congr 1
 rw [eq_iff_iff]
 constructor
 ·rintro ⟨j, h1, h2, h3, h4⟩
  refine ⟨j, ?_, h2, h3, h4⟩
  by_cases e : j = i
  ·subst e; exact absurd h3 h
  ·omega
 ·rintro ⟨j, h1, h2, h3, h4⟩; exact ⟨j, by omega, h2, h3, h4⟩
theorem mat0_skip {l : List Sy} {k i : Nat} (h : ¬ D l i k) (a b : Nat) : mat0 l k (i + 1) a b = mat0 l k i a b := by
 unfold mat0; rw [col_skip h]
theorem col_more {l : List Sy} {k i : Nat} (h : D l i k) (a : Nat) : colB l k i a = (colB l k (i + 1) a || decide (HBE l a i)) := by
 rw [Bool.eq_iff_iff]
 unfold colB
 simp only [Bool.or_eq_true, decide_eq_true_eq]
 constructor
 ·rintro ⟨j, h1, h2, h3, h4⟩
  by_cases e : j = i
  ·subst e; exact .inr h4
  ·exact .inl ⟨j, by omega, h2, h3, h4⟩
 ·rintro (⟨j, h1, h2, h3, h4⟩ | h4)
  ·exact ⟨j, by omega, h2, h3, h4⟩
  ·exact ⟨i, Nat.le_refl _, h.1, h, h4⟩
theorem mat1_start {l : List Sy} {k i : Nat} (h : D l i k) (a b : Nat) : mat1 l k i 0 a b = if a = i ∧ b = k then true else mat0 l k (i + 1) a b := by
 unfold mat1
 by_cases hb : b = k
 ·subst hb
  rw [if_pos rfl]
  by_cases ha : a = i
  ·subst ha
   rw [if_pos (.inl rfl), if_pos ⟨rfl, rfl⟩, col_more h]
   simp [HBE]
  ·rw [if_neg (by omega), if_neg (by omega)]
   unfold mat0; rw [if_neg (by omega), if_pos rfl]
 ·rw [if_neg hb, if_neg (by omega)]
theorem mat1_step {l : List Sy} {k i m : Nat} (h : D l i k) (hm : m < i) (a b : Nat) : mat1 l k i (m + 1) a b = if a = m ∧ b = k then (mat1 l k i m m k || mat1 l k i m m i) else mat1 l k i m a b := by
 by_cases hab : a = m ∧ b = k
 ·obtain ⟨rfl, rfl⟩ := hab
  rw [if_pos ⟨rfl, rfl⟩]
  unfold mat1
  rw [if_pos rfl, if_pos rfl, if_pos (by omega), if_neg (by omega), if_neg (by have := h.1; omega), col_more h]
  congr 1
  unfold mat0 hbB
  rw [if_pos h.1]
  have : HBE l a i ↔ HB l a i := ⟨fun q => q.resolve_left (by omega), .inr⟩
  simp [this]
 ·rw [if_neg hab]
  unfold mat1
  by_cases hb : b = k
  ·rw [if_pos hb, if_pos hb]
   by_cases ha : a = i ∨ a < m
   ·rw [if_pos (by omega), if_pos ha]
   ·rw [if_neg (by omega), if_neg ha]
  ·rw [if_neg hb, if_neg hb]
theorem mat1_end {l : List Sy} {k i : Nat} (h : D l i k) (a b : Nat) : mat1 l k i i a b = mat0 l k i a b := by
 unfold mat1
 by_cases hb : b = k
 ·subst hb
  rw [if_pos rfl]
  have e : mat0 l b i a b = colB l b i a := by unfold mat0; rw [if_neg (by omega), if_pos rfl]
  rw [e]
  by_cases ha : a = i ∨ a < i
  ·rw [if_pos ha]
  ·rw [if_neg ha, col_more h]
   have : ¬ HBE l a i := fun q => by have := q.le; omega
   simp [this]
 ·rw [if_neg hb]
  unfold mat0
  rw [if_neg hb, if_neg hb]
theorem mat0_all (l : List Sy) {n a b : Nat} (hb : b < n) : mat0 l n n a b = hbB l a b := by unfold mat0; rw [if_pos hb]
theorem D_iff {l : List Sy} (hp : ∀ i, 0 ≤ (at' l i).core) {i k : Nat} (h : i < k) : D l i k ↔ ((at' l i).core = (at' l k).core ∨ ((at' l i).kind = 3 ∧ (at' l k).kind = 4 ∧ (at' l i).addr = (at' l k).addr)) := by
 unfold D co
 have h1 := hp i; have h2 := hp k
 constructor
 ·rintro ⟨_, q | q⟩
  ·left; omega
  ·exact .inr q
 ·rintro (q | q)
  ·exact ⟨h, .inl (by rw [q])⟩
  ·exact ⟨h, .inr q⟩
end Go.Clk
