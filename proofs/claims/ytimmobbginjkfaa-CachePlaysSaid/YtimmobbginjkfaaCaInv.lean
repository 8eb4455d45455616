/- What holds of every slot, whatever is called. -/
import Derived.Test.YtimmobbginjkfaaCaW10
import Derived.Test.YtimmobbginjkfaaCaW9
set_option linter.unusedSimpArgs false
set_option linter.unusedVariables false
set_option linter.unnecessarySimpa false
namespace Go.Proofs.Ytimmobbginjkfaa
open Go Go.Sx Go.Ca
structure Inv (c : Ca) : Prop where
 lo : ∀ (j : Nat), j < c.n → (c.sl j).st ≠ 0 → 0 ≤ (c.sl j).line ∧ c.from (c.sl j).line ≤ j ∧ j < c.from (c.sl j).line + c.ways
 one : ∀ (j k : Nat), j < c.n → k < c.n → (c.sl j).st ≠ 0 → (c.sl k).st ≠ 0 → (c.sl j).line = (c.sl k).line → j = k
 st : ∀ (j : Nat), j < c.n → (c.sl j).st = 0 ∨ (c.sl j).st = 1 ∨ (c.sl j).st = 2
structure Sub (c c' : Ca) : Prop where
 s : c'.sets = c.sets
 w : c'.ways = c.ways
 l : ∀ (j : Nat), (c'.sl j).st = 0 ∨ ((c'.sl j).line = (c.sl j).line ∧ (c.sl j).st ≠ 0 ∧ ((c'.sl j).st = (c.sl j).st ∨ (c'.sl j).st = 1 ∨ (c'.sl j).st = 2))
theorem n_of {c c' : Ca} (s : c'.sets = c.sets) (w : c'.ways = c.ways) : c'.n = c.n := by unfold Ca.n; rw [s, w]
theorem from_of {c c' : Ca} (s : c'.sets = c.sets) (w : c'.ways = c.ways) (l : Int) : c'.from l = c.from l := by unfold Ca.from; rw [s, w]
theorem Sub.inv {c c' : Ca} (h : Sub c c') (i : Inv c) : Inv c' := by
 have hn := n_of h.s h.w
 have hf := from_of h.s h.w
 refine ⟨fun j hj hs => ?_, fun j k hj hk hs ht he => ?_, fun j hj => ?_⟩
 ·rcases h.l j with h1 | ⟨h1, h2, h3⟩
  ·exact absurd h1 hs
  ·rw [h1, hf, h.w]; exact i.lo j (hn ▸ hj) h2
 ·rcases h.l j with h1 | ⟨h1, h2, h3⟩
  ·exact absurd h1 hs
  ·rcases h.l k with h4 | ⟨h4, h5, h6⟩
   ·exact absurd h4 ht
   ·exact i.one j k (hn ▸ hj) (hn ▸ hk) h2 h5 (by rw [← h1, ← h4, he])
 ·rcases h.l j with h1 | ⟨h1, h2, h3⟩
  ·exact .inl h1
  ·have := i.st j (hn ▸ hj)
   rcases h3 with h3 | h3 | h3 <;> omega
theorem Sub.refl (c : Ca) : Sub c c := ⟨rfl, rfl, fun j => by
 by_cases h : (c.sl j).st = 0
 ·exact .inl h
 ·exact .inr ⟨rfl, h, .inl rfl⟩⟩
theorem Sub.upd {c : Ca} {j : Nat} {e : En} (u : Int) (h : e.st = 0 ∨ (e.line = (c.sl j).line ∧ (c.sl j).st ≠ 0 ∧ (e.st = (c.sl j).st ∨ e.st = 1 ∨ e.st = 2))) : Sub c { c with uses := u, sl := Go.Ca.upd c.sl j e } := ⟨rfl, rfl, fun k => by
 by_cases hk : k = j
 ·subst hk
  show (Go.Ca.upd c.sl k e k).st = 0 ∨ _
  simp only [upd_at]
  exact h
 ·have e0 : ({ c with uses := u, sl := Go.Ca.upd c.sl j e } : Ca).sl k = c.sl k := upd_ne c.sl e hk
  rw [e0]
  exact (Sub.refl c).l k⟩
theorem inC_at {c : Ca} {line state : Int} {j : Nat} (h : inC c line state = some j) : atC c line = some j ∧ (state ≠ 0 → (c.sl j).st = state) := by
 unfold inC at h
 split at h
 ·rename_i k hk
  split at h
  ·cases h
  ·rename_i h2
   injection h with h; subst h
   refine ⟨hk, fun hs => ?_⟩
   by_cases h3 : (c.sl k).st = state
   ·exact h3
   ·exact absurd (by simp [hs, h3]) h2
 ·cases h
theorem inC_hit {c : Ca} (ok : CaOk c) {line state : Int} {j : Nat} (h : inC c line state = some j) : (c.sl j).st ≠ 0 ∧ (c.sl j).line = line ∧ j < c.n := by
 obtain ⟨h1, _⟩ := inC_at h
 obtain ⟨h2, h3, _⟩ := atC_lt ok h1
 simp only [hitB, Bool.and_eq_true, bne_iff_ne, ne_eq, beq_iff_eq] at h3
 exact ⟨h3.1, h3.2, h2⟩
theorem word_sub {c : Ca} (ok : CaOk c) (a : Int) : Sub c (wordC c a) := by
 unfold wordC
 split
 ·exact Sub.refl c
 ·split
  ·rename_i j hj
   exact Sub.upd _ (.inr ⟨rfl, (inC_hit ok hj).1, .inl rfl⟩)
  ·exact Sub.refl c
theorem put_sub {c : Ca} (ok : CaOk c) (a v : Int) : Sub c (putC c a v) := by
 unfold putC
 split
 ·exact Sub.refl c
 ·split
  ·rename_i j hj
   have e : (useC c j).sl j = { c.sl j with used := c.uses + 1 } := upd_at _ _ _
   rw [e]
   have e2 : ∀ x, Go.Ca.upd (useC c j).sl j x = Go.Ca.upd c.sl j x := fun x => upd_upd _ _ _ _
   rw [e2]
   exact Sub.upd _ (.inr ⟨rfl, (inC_hit ok hj).1, .inl rfl⟩)
  ·exact Sub.refl c
theorem mark_sub {c : Ca} (ok : CaOk c) (a : Int) (w : Bool) : Sub c (markC c a w) := by
 unfold markC
 split
 ·split
  ·rename_i j hj
   split
   ·exact Sub.refl c
   ·exact Sub.upd c.uses (.inr ⟨rfl, (inC_hit ok hj).1, .inl rfl⟩)
  ·exact Sub.refl c
 ·split
  ·rename_i j hj
   exact Sub.upd c.uses (.inr ⟨rfl, (inC_hit ok hj).1, .inl rfl⟩)
  ·exact Sub.refl c
theorem dem_sub {c : Ca} (ok : CaOk c) (a : Int) : Sub c (demC c a) := by
 unfold demC
 split
 ·rename_i j hj
  exact Sub.upd c.uses (.inr ⟨rfl, (inC_hit ok hj).1, .inr (.inl rfl)⟩)
 ·exact Sub.refl c
theorem pro_sub {c : Ca} (ok : CaOk c) (a : Int) (d : Nat → Int) : Sub c (proC c a d) := by
 unfold proC
 split
 ·rename_i j hj
  exact Sub.upd c.uses (.inr ⟨rfl, (inC_hit ok hj).1, .inr (.inr rfl)⟩)
 ·exact Sub.refl c
theorem drop_sub {c : Ca} (a : Int) : Sub c (dropC c a) := by
 unfold dropC
 split
 ·exact Sub.upd c.uses (.inl rfl)
 ·exact Sub.refl c
theorem gen_sub {c : Ca} {g : En → En} (hg : ∀ e, (g e).line = e.line ∧ (g e).st = e.st) (i : Nat) : Sub c (genTo g c i) := ⟨rfl, rfl, fun j => by
 have h := (Sub.refl c).l j
 simp only [genTo]
 split
 ·rw [(hg (c.sl j)).1, (hg (c.sl j)).2]; exact h
 ·exact h⟩
theorem clr_ls (e : En) : (clr e).line = e.line ∧ (clr e).st = e.st := by
 unfold clr; split <;> exact ⟨rfl, rfl⟩
theorem dis_ls (e : En) : (dis e).line = e.line ∧ (dis e).st = e.st := by
 unfold dis
 split
 ·exact ⟨rfl, rfl⟩
 ·split <;> exact ⟨rfl, rfl⟩
theorem Sub.trans {a b c : Ca} (h : Sub a b) (k : Sub b c) : Sub a c := ⟨k.s.trans h.s, k.w.trans h.w, fun j => by
 rcases k.l j with h1 | ⟨h1, h2, h3⟩
 ·exact .inl h1
 ·rcases h.l j with h4 | ⟨h4, h5, h6⟩
  ·exact absurd h4 h2
  ·refine .inr ⟨h1.trans h4, h5, ?_⟩
   rcases h3 with h3 | h3
   ·rw [h3]; exact h6
   ·exact .inr h3⟩
theorem com_sub (c : Ca) : Sub c (comC c) := gen_sub clr_ls c.n
theorem dis_sub (c : Ca) : Sub c (disC c) := (gen_sub dis_ls c.n).trans (com_sub _)
theorem atTo_no {c : Ca} {line : Int} : ∀ {i : Nat}, atTo c line i = none → ∀ k, k < i → hitB line (c.sl (c.from line + k)) = false
 | 0, _, k, hk => by omega
 | i + 1, h, k, hk => by
  simp only [atTo] at h
  cases hq : atTo c line i with
  | some x => rw [hq] at h; cases h
  | none =>
   rw [hq] at h
   simp only at h
   split at h
   ·cases h
   ·rename_i hh
    by_cases e : k = i
    ·subst e; simpa using hh
    ·exact atTo_no hq k (by omega)
theorem atC_none {c : Ca} (i : Inv c) {line : Int} (h : atC c line = none) {j : Nat} (hj : j < c.n) (hs : (c.sl j).st ≠ 0) : (c.sl j).line ≠ line := by
 intro hl
 obtain ⟨h1, h2, h3⟩ := i.lo j hj hs
 rw [hl] at h1 h2 h3
 unfold atC at h
 rw [if_neg (by omega)] at h
 have := atTo_no h (j - c.from line) (by omega)
 rw [show c.from line + (j - c.from line) = j by omega] at this
 simp [hitB, hs, hl] at this
theorem atC_some {c : Ca} (ok : CaOk c) (i : Inv c) {j : Nat} (hj : j < c.n) (hs : (c.sl j).st ≠ 0) : atC c (c.sl j).line = some j := by
 cases h : atC c (c.sl j).line with
 | none => exact absurd rfl (atC_none i h hj hs)
 | some k =>
  obtain ⟨h1, h2, _⟩ := atC_lt ok h
  simp only [hitB, Bool.and_eq_true, bne_iff_ne, ne_eq, beq_iff_eq] at h2
  rw [i.one k j h1 hj h2.1 hs h2.2]
theorem rm_in (c : Ca) (b : Nat) : ∀ i a o, rmTo c b i = (a, o) → (∀ k, a = some k → b ≤ k ∧ k < b + i ∧ (c.sl k).st = 0) ∧ ∀ k, o = some k → b ≤ k ∧ k < b + i ∧ (c.sl k).rd = false ∧ (c.sl k).wr = false
 | 0, a, o, h => by
  simp only [rmTo] at h
  injection h with h1 h2
  subst h1; subst h2; simp
 | i + 1, a, o, h => by
  simp only [rmTo] at h
  cases hq : rmTo c b i with
  | mk x y =>
   obtain ⟨h1, h2⟩ := rm_in c b i x y hq
   rw [hq] at h
   cases x with
   | some k =>
    simp only at h
    injection h with h3 h4
    subst h3; subst h4
    exact ⟨fun k hk => by have := h1 k hk; exact ⟨this.1, by omega, this.2.2⟩, fun k hk => by have := h2 k hk; exact ⟨this.1, by omega, this.2.2⟩⟩
   | none =>
    simp only [rmS] at h
    split at h
    ·rename_i hz
     injection h with h3 h4
     subst h3; subst h4
     exact ⟨fun k hk => by injection hk with hk; subst hk; exact ⟨by omega, by omega, hz⟩, fun k hk => by have := h2 k hk; exact ⟨this.1, by omega, this.2.2⟩⟩
    ·split at h
     ·injection h with h3 h4
      subst h3; subst h4
      exact ⟨by simp, fun k hk => by have := h2 k hk; exact ⟨this.1, by omega, this.2.2⟩⟩
     ·rename_i hm
      have hm : (c.sl (b + i)).rd = false ∧ (c.sl (b + i)).wr = false := by simpa using hm
      cases y with
      | none =>
       simp only at h
       injection h with h3 h4
       subst h3; subst h4
       exact ⟨by simp, fun k hk => by injection hk with hk; subst hk; exact ⟨by omega, by omega, hm⟩⟩
      | some z =>
       simp only at h
       split at h
       all_goals
        injection h with h3 h4
        subst h3; subst h4
       ·exact ⟨by simp, fun k hk => by injection hk with hk; subst hk; exact ⟨by omega, by omega, hm⟩⟩
       ·exact ⟨by simp, fun k hk => by have := h2 k hk; exact ⟨this.1, by omega, this.2.2⟩⟩
theorem room_in {c : Ca} {line : Int} {j : Nat} (h : roomC c line = some j) : c.from line ≤ j ∧ j < c.from line + c.ways ∧ ((c.sl j).st = 0 ∨ (c.sl j).rd = false ∧ (c.sl j).wr = false) := by
 unfold roomC at h
 cases hq : rmTo c (c.from line) c.ways with
 | mk x y =>
  obtain ⟨h1, h2⟩ := rm_in c _ c.ways x y hq
  rw [hq] at h
  cases x with
  | some k =>
   simp only at h
   injection h with h; subst h
   obtain ⟨h3, h4, h5⟩ := h1 k rfl
   exact ⟨h3, h4, .inl h5⟩
  | none =>
   simp only at h
   obtain ⟨h3, h4, h5⟩ := h2 j h
   exact ⟨h3, h4, .inr h5⟩
theorem arg_no {line st : Int} (h : ¬ argB line st = true) : 0 ≤ line ∧ (st = 1 ∨ st = 2) := by
 simp only [argB, Bool.or_eq_true, decide_eq_true_eq, Bool.and_eq_true, bne_iff_ne, ne_eq, not_or, not_and, Decidable.not_not] at h
 refine ⟨by omega, ?_⟩
 by_cases h1 : st = 1
 ·exact .inl h1
 ·exact .inr (h.2 h1)
theorem fill_inv {c : Ca} (ok : CaOk c) (i : Inv c) (line st : Int) (d : Nat → Int) : Inv (fillC c line st d) := by
 unfold fillC
 split
 ·exact i
 rename_i ha
 obtain ⟨hl, hs⟩ := arg_no ha
 split
 ·exact i
 rename_i hat
 split
 ·exact i
 rename_i j hj
 obtain ⟨h1, h2, _⟩ := room_in hj
 have hjn := roomC_lt ok hj
 have hs0 : st ≠ 0 := by omega
 refine ⟨fun k hk hh => ?_, fun k m hk hm hkh hmh he => ?_, fun k hk => ?_⟩
 ·show 0 ≤ (upd c.sl j _ k).line ∧ c.from (upd c.sl j _ k).line ≤ k ∧ k < c.from (upd c.sl j _ k).line + c.ways
  by_cases e : k = j
  ·subst e; rw [upd_at]; exact ⟨hl, h1, h2⟩
  ·rw [upd_ne _ _ e]
   exact i.lo k hk (by have := hh; simp only [upd_ne _ _ e] at this; exact this)
 ·simp only at hkh hmh he
  by_cases e : k = j
  ·by_cases e2 : m = j
   ·rw [e, e2]
   ·exfalso
    rw [upd_ne _ _ e2] at hmh
    rw [upd_ne _ _ e2, e, upd_at] at he
    exact atC_none i hat hm hmh he.symm
  ·by_cases e2 : m = j
   ·exfalso
    rw [upd_ne _ _ e] at hkh
    rw [upd_ne _ _ e, e2, upd_at] at he
    exact atC_none i hat hk hkh he
   ·rw [upd_ne _ _ e] at hkh he
    rw [upd_ne _ _ e2] at hmh he
    exact i.one k m hk hm hkh hmh he
 ·show (upd c.sl j _ k).st = 0 ∨ (upd c.sl j _ k).st = 1 ∨ (upd c.sl j _ k).st = 2
  by_cases e : k = j
  ·subst e; rw [upd_at]; exact .inr hs
  ·rw [upd_ne _ _ e]; exact i.st k hk
theorem step_inv {c : Ca} (ok : CaOk c) (i : Inv c) (x : Sp) : Inv (stepC c x) := by
 unfold stepC
 repeat' split
 ·exact fill_inv ok i _ _ _
 ·exact (word_sub ok _).inv i
 ·exact (put_sub ok _ _).inv i
 ·exact (mark_sub ok _ _).inv i
 ·exact (dem_sub ok _).inv i
 ·exact (pro_sub ok _ _).inv i
 ·exact (drop_sub _).inv i
 ·exact (com_sub _).inv i
 ·exact (dis_sub _).inv i
 ·exact i
theorem inv_zero {c : Ca} (h : ∀ j, c.sl j = zE) : Inv c :=
 ⟨fun j _ hs => absurd (by rw [h j]; rfl) hs, fun j _ _ _ hs => absurd (by rw [h j]; rfl) hs, fun j _ => .inl (by rw [h j]; rfl)⟩
theorem hl_mem {c : Ca} {i : Nat} {e : En} (h : e ∈ hlTo c i) : ∃ j, j < i ∧ c.sl j = e ∧ e.st ≠ 0 := by
 unfold hlTo at h
 obtain ⟨h1, h2⟩ := List.mem_filter.1 h
 obtain ⟨j, hj, rfl⟩ := List.mem_map.1 h1
 exact ⟨j, List.mem_range.1 hj, rfl, by simpa using h2⟩
theorem mem_hl {c : Ca} {i j : Nat} (hj : j < i) (h : (c.sl j).st ≠ 0) : c.sl j ∈ hlTo c i :=
 List.mem_filter.2 ⟨List.mem_map.2 ⟨j, List.mem_range.2 hj, rfl⟩, by simpa using h⟩
end Go.Proofs.Ytimmobbginjkfaa
