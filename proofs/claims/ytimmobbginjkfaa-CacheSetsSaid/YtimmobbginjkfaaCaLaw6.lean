/- The plain law of CacheSets. -/
import Derived.Test.YtimmobbginjkfaaCaInv
set_option linter.unusedSimpArgs false
set_option linter.unusedVariables false
set_option linter.unnecessarySimpa false
namespace Go.Proofs.Ytimmobbginjkfaa
open Go Go.Sx Go.Ca
def manyE (s L : Int) (l : List En) : Nat := l.countP fun x => x.line % s == L % s
theorem many_snoc (s L : Int) (l : List En) (x : En) : manyE s L (l ++ [x]) = manyE s L l + if x.line % s == L % s then 1 else 0 := by
 unfold manyE
 rw [List.countP_append, List.countP_singleton]
theorem from_same {c : Ca} (ok : CaOk c) {a b : Int} (ha : 0 ≤ a) (hb : 0 ≤ b) (h : a % (c.sets : Int) = b % (c.sets : Int)) : c.from a = c.from b := by
 unfold Ca.from
 have e : ∀ x : Int, 0 ≤ x → x.toNat % c.sets = (x % (c.sets : Int)).toNat := fun x hx => by
  obtain ⟨n, rfl⟩ := Int.eq_ofNat_of_zero_le hx
  rw [← Int.natCast_emod]
  rfl
 rw [e a ha, e b hb, h]
theorem many_le {c : Ca} (ok : CaOk c) (iv : Inv c) {L : Int} (hL : 0 ≤ L) : ∀ i, i ≤ c.n → manyE c.sets L (hlTo c i) ≤ c.ways ∧ manyE c.sets L (hlTo c i) ≤ i - c.from L
 | 0, _ => by simp [hlTo, manyE]
 | i + 1, hi => by
  have ih := many_le ok iv hL i (by omega)
  rw [hlTo_succ]
  by_cases hs : (c.sl i).st = 0
  ·rw [if_neg (by simp [hs]), List.append_nil]
   omega
  ·rw [if_pos (by simpa using hs), many_snoc]
   split
   ·rename_i h
    have h := of_decide_eq_true h
    obtain ⟨h1, h2, h3⟩ := iv.lo i hi hs
    rw [from_same ok h1 hL h] at h2 h3
    omega
   ·omega
theorem many_es {c : Ca} (ok : CaOk c) (iv : Inv c) {es : List En} (hp : es.Perm (hlTo c c.n)) {L : Int} (hL : 0 ≤ L) : manyE c.sets L es ≤ c.ways := by
 have h := (many_le ok iv hL c.n (Nat.le_refl _)).1
 unfold manyE at *
 rw [hp.countP_eq]
 exact h
theorem sets_find {c : Ca} (ok : CaOk c) (iv : Inv c) (hu : c.uses + 1 ≤ 1000000) (N : Int) (d : Nat → Int) {e : En} (he : e ∈ hlTo c c.n) :
  ((fillA c N 1).2.1 = true ∧ (fillA c N 1).1 = e ∧ e.rd = false ∧ e.wr = false ∧ (fillA c N 1).2.2 = 0 ∧ findV (fillC c N 1 d) e.line = .tuple #[.agg (enV zE).toArray, .bool false])
  ∨ (((fillA c N 1).2.1 = false ∨ (fillA c N 1).1.line ≠ e.line) ∧ findV (fillC c N 1 d) e.line = .tuple #[.agg (enV e).toArray, .bool true]) := by
 obtain ⟨k, hk, rfl, hs⟩ := hl_mem he
 have same : findV c (c.sl k).line = .tuple #[.agg (enV (c.sl k)).toArray, .bool true] := by
  unfold findV; rw [atC_some ok iv hk hs]
 have ok2 : CaOk (fillC c N 1 d) := (fill_like c N 1 d).ok ok hu
 have iv2 : Inv (fillC c N 1 d) := fill_inv ok iv N 1 d
 unfold fillA fillC at *
 split
 ·exact .inr ⟨.inl rfl, same⟩
 rename_i ha
 rw [if_neg ha] at ok2 iv2
 cases hat : atC c N with
 | some x => exact .inr ⟨.inl rfl, same⟩
 | none =>
  rw [hat] at ok2 iv2
  cases hj : roomC c N with
  | none => exact .inr ⟨.inl rfl, same⟩
  | some j =>
   rw [hj] at ok2 iv2
   simp only at ok2 iv2 ⊢
   have hjn := roomC_lt ok hj
   obtain ⟨_, _, hfree⟩ := room_in hj
   by_cases e : k = j
   ·subst e
    have hm : (c.sl k).rd = false ∧ (c.sl k).wr = false := hfree.resolve_left hs
    refine .inl ⟨by simpa using hs, by trivial, hm.1, hm.2, by trivial, ?_⟩
    unfold findV
    cases h2 : atC { c with uses := c.uses + 1, sl := upd c.sl k (fillE N 1 d (c.uses + 1)) } (c.sl k).line with
    | none => rfl
    | some m =>
     exfalso
     obtain ⟨h3, h4, _⟩ := atC_lt ok2 h2
     simp only [hitB, Bool.and_eq_true, bne_iff_ne, ne_eq, beq_iff_eq] at h4
     by_cases e2 : m = k
     ·rw [e2, upd_at] at h4
      exact atC_none iv hat hk hs h4.2.symm
     ·rw [upd_ne _ _ e2] at h4
      exact e2 (iv.one m k h3 hk h4.1 hs h4.2)
   ·refine .inr ⟨?_, ?_⟩
    ·by_cases h : (c.sl j).st = 0
     ·exact .inl (by simp [h])
     ·exact .inr fun hl => e (iv.one k j hk hjn hs h hl.symm)
    ·have h1 : ({ c with uses := c.uses + 1, sl := upd c.sl j (fillE N 1 d (c.uses + 1)) } : Ca).sl k = c.sl k := upd_ne _ _ e
     have h2 := atC_some ok2 iv2 (j := k) hk (by rw [h1]; exact hs)
     rw [h1] at h2
     unfold findV
     rw [h2]
     simp only
     rw [upd_ne _ _ e]
end Go.Proofs.Ytimmobbginjkfaa
