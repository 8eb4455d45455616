/- The plain law of histories (5): the two ways to tell which plain event races first are one. -/
import Derived.Test.YtnedgfkgmdoahaaHsX9
set_option linter.unusedSimpArgs false
set_option linter.unusedVariables false
set_option linter.unnecessarySimpa false
namespace Go.Proofs.Ytnedgfkgmdoahaa
open Go Go.Hs
theorem one_ended (h : List Ev) (k : Nat) : ∀ n, 0 ≤ (oneTo h k n).to → ∃ T : Nat, (oneTo h k n).to = T ∧ T < n ∧ ((evA h T).kind = 5 ∨ (evA h T).kind = 6) ∧ (∀ m, m ≤ T → (oneTo h k m).to < 0) ∧ ∀ m, T < m → (oneTo h k m).to = T
 | 0, h0 => by simp [oneTo, newA] at h0
 | n + 1, h0 => by
  by_cases hp : 0 ≤ (oneTo h k n).to
  ·obtain ⟨T, h1, h2, h3, h4, h5⟩ := one_ended h k n hp
   exact ⟨T, h5 (n + 1) (by omega), by omega, h3, h4, h5⟩
  ·have hc : k < n ∧ (oneTo h k n).to < 0 ∧ ownB (oneTo h k n) (evA h n) = true := by
    refine Classical.byContradiction fun hc => hp ?_
    simp only [oneTo] at h0
    rw [if_neg hc] at h0; exact h0
   have e : oneTo h k (n + 1) = hearA (oneTo h k n) n (evA h n) := by simp only [oneTo]; rw [if_pos hc]
   have hto := hear_to (oneTo h k n) n (evA h n)
   have h56 : (evA h n).kind = 5 ∨ (evA h n).kind = 6 := by
    refine Classical.byContradiction fun hn => hp ?_
    rw [e, hto, if_neg hn] at h0; exact h0
   rw [if_pos h56] at hto
   refine ⟨n, by rw [e, hto], by omega, h56, fun m hm => ?_, fun m hm => ?_⟩
   ·refine Classical.byContradiction fun hh => hp ?_
    have := oneTo_stop h k (n := m) (by omega) n hm
    rw [this]; omega
   ·have := oneTo_stop h k (n := n + 1) h0 m hm
    rw [this, e, hto]
theorem tch_mem (l : List Int) (a b : Int) : b ∈ tch l a ↔ b ∈ l ∨ b = a := by
 unfold tch
 split
 ·rename_i h
  exact ⟨.inl, fun hh => hh.elim id fun e => by rw [e]; exact h⟩
 ·simp
theorem hear_touched (x : At) (n : Int) (e : Ev) (a : Int) : a ∈ (hearA x n e).touched ↔ a ∈ x.touched ∨ ((e.kind = 2 ∨ e.kind = 3) ∧ e.addr = a) := by
 have hl : (loadA x e).touched = tch x.touched e.addr := by
  unfold loadA
  cases findN x.stores e.addr with
  | some _ => rfl
  | none => cases findN x.loads e.addr <;> rfl
 unfold hearA
 by_cases h2 : e.kind = 2
 ·rw [if_pos h2]
  have key : ∀ y : At, y.touched = tch x.touched e.addr → (a ∈ y.touched ↔ a ∈ x.touched ∨ ((e.kind = 2 ∨ e.kind = 3) ∧ e.addr = a)) := fun y hy => by
   rw [hy, tch_mem]
   exact ⟨fun hh => hh.imp id fun q => ⟨.inl h2, q.symm⟩, fun hh => hh.imp id fun q => q.2.symm⟩
  split
  ·exact key _ hl
  ·exact key _ hl
 rw [if_neg h2]
 by_cases h3 : e.kind = 3
 ·rw [if_pos h3]
  show a ∈ tch x.touched e.addr ↔ _
  rw [tch_mem]
  exact ⟨fun hh => hh.imp id fun q => ⟨.inr h3, q.symm⟩, fun hh => hh.imp id fun q => q.2.symm⟩
 rw [if_neg h3]
 have key : ∀ y : At, y.touched = x.touched → (a ∈ y.touched ↔ a ∈ x.touched ∨ ((e.kind = 2 ∨ e.kind = 3) ∧ e.addr = a)) := fun y hy => by
  rw [hy]
  exact ⟨.inl, fun hh => hh.elim id fun q => by omega⟩
 repeat' split
 all_goals exact key _ rfl
theorem one_touched (h : List Ev) (k : Nat) (a : Int) : ∀ n, a ∈ (oneTo h k n).touched ↔ ∃ m, m < n ∧ k < m ∧ (oneTo h k m).to < 0 ∧ ownB (oneTo h k m) (evA h m) = true ∧ ((evA h m).kind = 2 ∨ (evA h m).kind = 3) ∧ (evA h m).addr = a
 | 0 => by simp [oneTo, newA]
 | n + 1 => by
  have ih := one_touched h k a n
  by_cases hc : k < n ∧ (oneTo h k n).to < 0 ∧ ownB (oneTo h k n) (evA h n) = true
  ·have e : oneTo h k (n + 1) = hearA (oneTo h k n) n (evA h n) := by simp only [oneTo]; rw [if_pos hc]
   rw [e, hear_touched, ih]
   constructor
   ·rintro (⟨m, h1, h2⟩ | ⟨h1, h2⟩)
    ·exact ⟨m, by omega, h2⟩
    ·exact ⟨n, by omega, hc.1, hc.2.1, hc.2.2, h1, h2⟩
   ·rintro ⟨m, h1, h2, h3, h4, h5, h6⟩
    by_cases hm : m = n
    ·subst hm; exact .inr ⟨h5, h6⟩
    ·exact .inl ⟨m, by omega, h2, h3, h4, h5, h6⟩
  ·have e : oneTo h k (n + 1) = oneTo h k n := by simp only [oneTo]; rw [if_neg hc]
   rw [e, ih]
   constructor
   ·rintro ⟨m, h1, h2⟩; exact ⟨m, by omega, h2⟩
   ·rintro ⟨m, h1, h2, h3, h4, h5⟩
    by_cases hm : m = n
    ·subst hm; exact absurd ⟨h2, h3, h4⟩ hc
    ·exact ⟨m, by omega, h2, h3, h4, h5⟩
theorem own_any (h : List Ev) (k n m : Nat) (e : Ev) : ownB (oneTo h k n) e = ownB (oneTo h k m) e := by
 obtain ⟨a1, a2, a3, _, _⟩ := oneTo_own h k n
 obtain ⟨b1, b2, b3, _, _⟩ := oneTo_own h k m
 unfold ownB; rw [a1, a2, a3, b1, b2, b3]
theorem tou_iff (h : List Ev) (x : At) (a : Int) : ∀ n, touN h x a n = true ↔ ∃ m, m < n ∧ x.frm ≤ (m : Int) ∧ (x.to < 0 ∨ (m : Int) < x.to) ∧ tchB x a m (evA h m) = true
 | 0 => by simp [touN]
 | n + 1 => by
  have ih := tou_iff h x a n
  simp only [touN, Bool.or_eq_true, ih, Bool.and_eq_true, decide_eq_true_eq]
  constructor
  ·rintro (⟨m, h1, h2⟩ | ⟨h1, h2, h3⟩)
   ·exact ⟨m, by omega, h2⟩
   ·exact ⟨n, by omega, h1, h2, h3⟩
  ·rintro ⟨m, h1, h2, h3, h4⟩
   by_cases hm : m = n
   ·subst hm; exact .inr ⟨h2, h3, h4⟩
   ·exact .inl ⟨m, by omega, h2, h3, h4⟩
theorem touched_tou (h : List Ev) (k n : Nat) (a : Int) : a ∈ (oneTo h k n).touched ↔ touN h (oneTo h k n) a n = true := by
 rw [one_touched, tou_iff]
 have hf := (oneTo_own h k n).2.2.2.2
 constructor
 ·rintro ⟨m, h1, h2, h3, h4, h5, h6⟩
  refine ⟨m, h1, by rw [hf]; omega, ?_, ?_⟩
  ·by_cases ht : 0 ≤ (oneTo h k n).to
   ·obtain ⟨T, e1, e2, e3, e4, e5⟩ := one_ended h k n ht
    rw [e1]
    right
    by_cases hm : m ≤ T
    ·by_cases he : m = T
     ·subst he; omega
     ·omega
    ·have := e5 m (by omega); omega
   ·left; omega
  ·unfold tchB ownN
   rw [own_any h k n m, h4, decide_eq_true (by rw [hf]; omega)]
   simp only [Bool.true_and, Bool.and_eq_true, Bool.or_eq_true, beq_iff_eq]
   exact ⟨h5, h6⟩
 ·rintro ⟨m, h1, h2, h3, h4⟩
  unfold tchB ownN at h4
  simp only [Bool.and_eq_true, Bool.or_eq_true, beq_iff_eq, decide_eq_true_eq] at h4
  obtain ⟨⟨h5, h6⟩, h7, h8⟩ := h4
  rw [hf] at h5
  refine ⟨m, h1, by omega, ?_, by rw [own_any h k m n]; exact h6, h7, h8⟩
  by_cases ht : 0 ≤ (oneTo h k n).to
  ·obtain ⟨T, e1, e2, e3, e4, e5⟩ := one_ended h k n ht
   exact e4 m (by omega)
  ·refine Classical.byContradiction fun hh => ht ?_
   rw [oneTo_stop h k (n := m) (by omega) n (by omega)]; omega
theorem race_eq {h : List Ev} {l : List At} (hl : splitL h = some l) : frst (racePH h l) h.length = frst (raceP h (splitR h)) h.length := by
 have hlr := splitL_ref hl
 unfold splitL at hl
 cases hs : sp h h.length with
 | none => rw [hs] at hl; cases hl
 | some s =>
  rw [hs] at hl; injection hl with hl
  have hl : s.out = l := hl
  have hm : mayL h = true := by rw [mayL_sp, hs]; rfl
  have hkind : ∀ n, n < h.length → (evA h n).kind ≤ 8 := by
   intro n hn
   have key : ∀ m, mayTo h (n + 1 + m) = true → may1 h (openR h (evA h n).core n) (evA h n) = true := by
    intro m
    induction m with
    | zero => intro hq; simp only [Nat.add_zero, mayTo, Bool.and_eq_true] at hq; exact hq.2
    | succ m ih => intro hq; refine ih ?_; have : mayTo h (n + 1 + m + 1) = true := hq; simp only [mayTo, Bool.and_eq_true] at this; exact this.1
   have := key (h.length - (n + 1)) (by rw [show n + 1 + (h.length - (n + 1)) = h.length by omega]; exact hm)
   rw [may1_iff] at this
   exact this.2.1
  have hpt : ∀ n, n < h.length → racePH h l n = raceP h (splitR h) n := by
   intro n hn
   have hk := hkind n hn
   have e1 : plainB (evA h n) = decide ((evA h n).kind ≥ 7) := by rw [Bool.eq_iff_iff, plainT, decide_eq_true_eq]; omega
   have e2 : ∀ x ∈ l, racQ x (evA h n).addr n = (overB x n && touN h x (evA h n).addr h.length) := by
    intro x hx
    have hr := (sp_ok hs).rng x (by rw [hl]; exact hx)
    rw [hlr] at hx
    obtain ⟨k, _, rfl⟩ := List.mem_map.1 hx
    have ht := touched_tou h k h.length (evA h n).addr
    rw [Bool.eq_iff_iff]
    unfold racQ overB hardB
    simp only [Bool.and_eq_true, Bool.or_eq_true, decide_eq_true_eq, Bool.not_eq_true', Bool.or_eq_false_iff, beq_eq_false_iff_ne, ne_eq, ht]
    constructor
    ·rintro ⟨⟨h1, h2⟩, h3, h4, h5⟩; exact ⟨⟨by omega, h3, h4⟩, h5⟩
    ·rintro ⟨⟨h1, h3, h4⟩, h5⟩; exact ⟨⟨by omega, by omega⟩, h3, h4, h5⟩
   unfold racePH raceP
   rw [e1, ← hlr]
   congr 1
   rw [Bool.eq_iff_iff, List.any_eq_true, List.any_eq_true]
   constructor
   ·rintro ⟨x, hx, h1⟩; exact ⟨x, hx, by rw [← e2 x hx]; exact h1⟩
   ·rintro ⟨x, hx, h1⟩; exact ⟨x, hx, by rw [e2 x hx]; exact h1⟩
  have : ∀ n, n ≤ h.length → frst (racePH h l) n = frst (raceP h (splitR h)) n := by
   intro n
   induction n with
   | zero => intro _; rfl
   | succ n ih => intro hn; simp only [frst]; rw [ih (by omega), hpt n hn]
  exact this _ (Nat.le_refl _)
end Go.Proofs.Ytnedgfkgmdoahaa
