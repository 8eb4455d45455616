/- The plain law of ClocksGuard: what is done between an acquire and the next release never races. -/
import Derived.Test.YtnedgfkgmdoahaaClkLaw4
import Derived.Test.YtnedgfkgmdoahaaClkAhead
set_option linter.unusedSimpArgs false
set_option linter.unusedVariables false
set_option linter.unnecessarySimpa false
namespace Go.Clk
open Go Go.Sx Go.Proofs.Ytnedgfkgmdoahaa

/-- A number, and some of its lowest bits. -/
def andI (a : Int) (m : Nat) : Int := ((BitVec.ofInt 64 a &&& BitVec.ofInt 64 (m : Int)).toNat : Int)
theorem andI_le (a : Int) (m : Nat) (hm : m < 1000) : 0 ≤ andI a m ∧ andI a m ≤ m := by
  unfold andI
  rw [BitVec.toNat_and]
  have h : (BitVec.ofInt 64 (m : Int)).toNat = m := by
    rw [BitVec.toNat_ofInt]
    omega
  rw [h]
  have := Nat.and_le_right (n := (BitVec.ofInt 64 a).toNat) (m := m)
  omega
theorem andI_ok (a : Int) (m : Nat) (hm : m < 1000) : BitOk .and .i64 a (m : Int) (andI a m) := by
  have := andI_le a m hm
  show andI a m = IntKind.i64.wrap (andI a m)
  rw [IntKind.wrap_i64]
  omega

structure Tn where
  core : Int
  A : Option Addr
  c : Nat
  l : List Sy
def Tn.cells (t : Tn) : List Value := [.int .i64 t.core, .slice t.A t.l.length t.c]
def cellsT (l : List Tn) : List Value := l.flatMap Tn.cells
theorem cellsT_len (l : List Tn) : (cellsT l).length = l.length * 2 := flat_len (f := Tn.cells) (sz := 2) (fun _ => rfl) l
theorem cellsT_get (l : List Tn) {i k : Nat} (hi : i < l.length) (hk : k < 2) : (cellsT l)[i * 2 + k]? = (l[i]).cells[k]? := flat_get (f := Tn.cells) (sz := 2) (fun _ => rfl) l hi hk

def accB (x : Sy) : Bool := x.kind == 1 || x.kind == 2
def accOf (c : Int) (l : List Sy) : List Sy := (l.filter accB).map fun x => ⟨c, x.kind, andI x.addr 255⟩
def blkOf (o : Int) (t : Tn) : List Sy := [⟨andI t.core 3, 4, o⟩] ++ accOf (andI t.core 3) t.l ++ [⟨andI t.core 3, 3, o⟩]
def allOf (o : Int) (ts : List Tn) : List Sy := ts.flatMap (blkOf o)

theorem at_left {a b : List Sy} {i : Nat} (h : i < a.length) : at' (a ++ b) i = at' a i := by
  unfold at'; rw [List.getD_eq_getElem?_getD, List.getD_eq_getElem?_getD, List.getElem?_append_left h]
theorem at_right (a b : List Sy) (i : Nat) : at' (a ++ b) (a.length + i) = at' b i := by
  unfold at'; rw [List.getD_eq_getElem?_getD, List.getD_eq_getElem?_getD, List.getElem?_append_right (by omega)]
  congr 2; omega
theorem accOf_mem {c : Int} {l : List Sy} {x : Sy} (h : x ∈ accOf c l) : x.core = c ∧ (x.kind = 1 ∨ x.kind = 2) ∧ 0 ≤ x.addr := by
  unfold accOf at h
  obtain ⟨y, hy, rfl⟩ := List.mem_map.1 h
  have := (List.mem_filter.1 hy).2
  simp [accB] at this
  exact ⟨rfl, this, (andI_le _ 255 (by omega)).1⟩
theorem blk_mem {o : Int} {t : Tn} {x : Sy} (h : x ∈ blkOf o t) : x.core = andI t.core 3 ∧ (x.kind = 4 ∨ x.kind = 3 ∨ x.kind = 1 ∨ x.kind = 2) ∧ (0 ≤ o → 0 ≤ x.addr) := by
  unfold blkOf at h
  rcases List.mem_append.1 h with h | h
  · rcases List.mem_append.1 h with h | h
    · simp at h; subst h; exact ⟨rfl, .inl rfl, id⟩
    · obtain ⟨h1, h2, h3⟩ := accOf_mem h
      exact ⟨h1, by rcases h2 with h2 | h2 <;> simp [h2], fun _ => h3⟩
  · simp at h; subst h; exact ⟨rfl, .inr (.inl rfl), id⟩
theorem at_mem {l : List Sy} {i : Nat} (h : i < l.length) : at' l i ∈ l := by rw [at_get l h]; exact List.getElem_mem h
theorem blk_pos (o : Int) (t : Tn) : 2 ≤ (blkOf o t).length := by simp [blkOf]
theorem blk_first (o : Int) (t : Tn) (r : List Sy) : at' (blkOf o t ++ r) 0 = ⟨andI t.core 3, 4, o⟩ := by simp [blkOf, at']
theorem blk_last (o : Int) (t : Tn) : at' (blkOf o t) ((blkOf o t).length - 1) = ⟨andI t.core 3, 3, o⟩ := by
  have e : blkOf o t = ([⟨andI t.core 3, 4, o⟩] ++ accOf (andI t.core 3) t.l) ++ [⟨andI t.core 3, 3, o⟩] := rfl
  have hl : (blkOf o t).length - 1 = ([(⟨andI t.core 3, 4, o⟩ : Sy)] ++ accOf (andI t.core 3) t.l).length + 0 := by rw [e, List.length_append]; simp
  rw [hl, e, at_right]; rfl

/-- Each access has an acquire of its core ahead. -/
theorem acq_before (o : Int) : ∀ (ts : List Tn) (k : Nat), k < (allOf o ts).length → (at' (allOf o ts) k).kind ≤ 2 → ∃ q, q < k ∧ (at' (allOf o ts) q).core = (at' (allOf o ts) k).core ∧ (at' (allOf o ts) q).kind = 4 ∧ (at' (allOf o ts) q).addr = o
  | [], k, h, _ => by simp [allOf] at h
  | t :: ts, k, h, hk => by
    have e : allOf o (t :: ts) = blkOf o t ++ allOf o ts := rfl
    rw [e] at h hk ⊢
    by_cases hb : k < (blkOf o t).length
    · rw [at_left hb] at hk ⊢
      have hm := blk_mem (at_mem hb)
      refine ⟨0, ?_, ?_⟩
      · rcases Nat.eq_zero_or_pos k with h0 | h0
        · subst h0
          have := blk_first o t []
          rw [List.append_nil] at this
          rw [this] at hk; simp at hk
        · exact h0
      · rw [blk_first]; exact ⟨hm.1.symm, rfl, rfl⟩
    · obtain ⟨j, rfl⟩ := Nat.exists_eq_add_of_le (show (blkOf o t).length ≤ k by omega)
      rw [at_right] at hk ⊢
      rw [List.length_append] at h
      obtain ⟨q, h1, h2⟩ := acq_before o ts j (by omega) hk
      exact ⟨(blkOf o t).length + q, by omega, by rw [at_right]; exact h2⟩
theorem between (o : Int) : ∀ (ts : List Tn) (i k : Nat), i < k → k < (allOf o ts).length → (at' (allOf o ts) i).kind ≤ 2 → (at' (allOf o ts) k).kind ≤ 2 → (at' (allOf o ts) i).core ≠ (at' (allOf o ts) k).core →
    ∃ r q, i < r ∧ r < q ∧ q < k ∧ (at' (allOf o ts) i).core = (at' (allOf o ts) r).core ∧ (at' (allOf o ts) r).kind = 3 ∧ (at' (allOf o ts) r).addr = o ∧ (at' (allOf o ts) q).core = (at' (allOf o ts) k).core ∧ (at' (allOf o ts) q).kind = 4 ∧ (at' (allOf o ts) q).addr = o
  | [], i, k, _, h, _, _, _ => by simp [allOf] at h
  | t :: ts, i, k, hik, hk, h1, h2, h3 => by
    have e : allOf o (t :: ts) = blkOf o t ++ allOf o ts := rfl
    rw [e] at hk h1 h2 h3 ⊢
    rw [List.length_append] at hk
    by_cases hi : i < (blkOf o t).length
    · by_cases hkb : k < (blkOf o t).length
      · rw [at_left hi, at_left hkb] at h3
        exact absurd ((blk_mem (at_mem hi)).1.trans (blk_mem (at_mem hkb)).1.symm) h3
      · obtain ⟨j, rfl⟩ := Nat.exists_eq_add_of_le (show (blkOf o t).length ≤ k by omega)
        rw [at_right] at h2 h3 ⊢
        rw [at_left hi] at h1 h3 ⊢
        obtain ⟨q, q1, q2, q3, q4⟩ := acq_before o ts j (by omega) h2
        have hp := blk_pos o t
        have hl := blk_last o t
        have hne : i ≠ (blkOf o t).length - 1 := by
          intro e; rw [e, hl] at h1; simp at h1
        refine ⟨(blkOf o t).length - 1, (blkOf o t).length + q, by omega, by omega, by omega, ?_⟩
        rw [at_left (show (blkOf o t).length - 1 < (blkOf o t).length by omega), at_right, hl]
        exact ⟨(blk_mem (at_mem hi)).1, rfl, rfl, q2, q3, q4⟩
    · obtain ⟨i', rfl⟩ := Nat.exists_eq_add_of_le (show (blkOf o t).length ≤ i by omega)
      obtain ⟨j, rfl⟩ := Nat.exists_eq_add_of_le (show (blkOf o t).length ≤ k by omega)
      rw [at_right] at h1 h2 h3 ⊢
      rw [at_right] at h3 ⊢
      obtain ⟨r, q, g1, g2, g3, g4⟩ := between o ts i' j (by omega) (by omega) h1 h2 h3
      refine ⟨(blkOf o t).length + r, (blkOf o t).length + q, by omega, by omega, by omega, ?_⟩
      rw [at_right, at_right]
      exact g4
theorem blk_len (o : Int) (t : Tn) (h : t.l.length ≤ 8) : (blkOf o t).length ≤ 10 := by
  have : (accOf (andI t.core 3) t.l).length ≤ t.l.length := by unfold accOf; rw [List.length_map]; exact List.length_filter_le _ _
  simp [blkOf]; omega
theorem all_len (o : Int) : ∀ (ts : List Tn), (∀ t ∈ ts, t.l.length ≤ 8) → (allOf o ts).length ≤ ts.length * 10
  | [], _ => by simp [allOf]
  | t :: ts, h => by
    have e : allOf o (t :: ts) = blkOf o t ++ allOf o ts := rfl
    rw [e, List.length_append]
    have := blk_len o t (h t (by simp)); have := all_len o ts fun x hx => h x (by simp [hx])
    simp; omega
theorem all_ok (o : Int) (ts : List Tn) (ho : 0 ≤ o) (h : ∀ t ∈ ts, t.l.length ≤ 8) (hn : ts.length ≤ 30) : okLs (allOf o ts) := by
  refine ⟨by have := all_len o ts h; omega, fun x hx => ?_⟩
  obtain ⟨t, _, hx⟩ := List.mem_flatMap.1 hx
  obtain ⟨h1, h2, h3⟩ := blk_mem hx
  have := andI_le t.core 3 (by omega)
  refine ⟨by omega, by omega, by omega, by omega, h3 ho⟩
theorem all_races (o : Int) (ts : List Tn) (ho : 0 ≤ o) (h : ∀ t ∈ ts, t.l.length ≤ 8) (hn : ts.length ≤ 30) : racesL (allOf o ts) = [] := by
  have hok := all_ok o ts ho h hn
  have key : ∀ i k, i < k → k < (allOf o ts).length → raceB (allOf o ts) i k = false := by
    intro i k hik hk
    cases hr : raceB (allOf o ts) i k with
    | false => rfl
    | true =>
      simp only [raceB, Bool.and_eq_true, decide_eq_true_eq, Bool.not_eq_true', beq_eq_false_iff_ne] at hr
      obtain ⟨⟨⟨⟨⟨h1, h2⟩, _⟩, h3⟩, _⟩, h4⟩ := hr
      obtain ⟨r, q, g1, g2, g3, g4, g5, g6, g7, g8, g9⟩ := between o ts i k hik hk h1 h2 h3
      have hb : HB (allOf o ts) i k := by
        refine HB.trans (j := r) (.base ⟨g1, .inl ?_⟩) (HB.trans (j := q) (.base ⟨g2, .inr ⟨g5, g8, g6.trans g9.symm⟩⟩) (.base ⟨g3, .inl ?_⟩))
        · unfold co; rw [g4]
        · unfold co; rw [g7]
      rw [(ahB_eq hok (by omega) hk).2 hb] at h4
      cases h4
  unfold racesL racesTo
  rw [List.flatMap_eq_nil_iff]
  intro i _
  unfold rowR
  rw [List.map_eq_nil_iff, List.filter_eq_nil_iff]
  intro k hk
  have hk := List.mem_range.1 hk
  by_cases hik : i < k
  · simp [key i k hik hk]
  · simp [hik]
end Go.Clk
