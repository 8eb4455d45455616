/- The plain law of CachePlays: Fill; a step. -/
import Derived.Test.YtimmobbginjkfaaCpLaw
import Derived.Test.YtimmobbginjkfaaCpW3
set_option linter.unusedSimpArgs false
set_option linter.unusedVariables false
set_option linter.unnecessarySimpa false
namespace Go.Proofs.Ytimmobbginjkfaa
open Go Go.Sx Go.Ca
def mk (e : En) : Bool := e.rd || e.wr
theorem rm_no (c : Ca) (b : Nat) : ∀ i o, rmTo c b i = (none, o) → (∀ m, m < i → (c.sl (b + m)).st ≠ 0) ∧ (o = none → ∀ m, m < i → mk (c.sl (b + m)) = true) ∧ ∀ k, o = some k → mk (c.sl k) = false ∧ b ≤ k ∧ k < b + i ∧ ∀ m, m < i → mk (c.sl (b + m)) = false → (c.sl k).used ≤ (c.sl (b + m)).used
 | 0, o, h => by
  simp only [rmTo] at h
  injection h with h1 h2
  subst h2
  exact ⟨fun m hm => by omega, fun _ m hm => by omega, fun k hk => by cases hk⟩
 | i + 1, o, h => by
  simp only [rmTo] at h
  cases hq : rmTo c b i with
  | mk x y =>
   rw [hq] at h
   cases x with
   | some k => simp only at h; injection h with h1 h2; cases h1
   | none =>
    obtain ⟨a1, a2, a3⟩ := rm_no c b i y hq
    simp only [rmS] at h
    split at h
    ·injection h with h1 h2; cases h1
    rename_i hs
    have held : ∀ m, m < i + 1 → (c.sl (b + m)).st ≠ 0 := fun m hm => by
     by_cases e : m = i
     ·subst e; exact hs
     ·exact a1 m (by omega)
    split at h
    ·rename_i hm0
     injection h with h1 h2
     subst h2
     have hmk : mk (c.sl (b + i)) = true := hm0
     refine ⟨held, fun hn m hm => ?_, fun k hk => ?_⟩
     ·by_cases e : m = i
      ·subst e; exact hmk
      ·exact a2 hn m (by omega)
     ·obtain ⟨p1, p2, p3, p4⟩ := a3 k hk
      refine ⟨p1, p2, by omega, fun m hm hu => ?_⟩
      by_cases e : m = i
      ·subst e; rw [hmk] at hu; cases hu
      ·exact p4 m (by omega) hu
    ·rename_i hm0
     have hmk : mk (c.sl (b + i)) = false := by unfold mk; simpa using hm0
     cases y with
     | none =>
      simp only at h
      injection h with h1 h2
      subst h2
      refine ⟨held, fun hn => (by cases hn), fun k hk => ?_⟩
      injection hk with hk; subst hk
      refine ⟨hmk, by omega, by omega, fun m hm hu => ?_⟩
      by_cases e : m = i
      ·subst e; exact Int.le_refl _
      ·rw [a2 rfl m (by omega)] at hu; cases hu
     | some z =>
      obtain ⟨p1, p2, p3, p4⟩ := a3 z rfl
      simp only at h
      split at h
      all_goals
       rename_i hlt
       injection h with h1 h2
       subst h2
       refine ⟨held, fun hn => (by cases hn), fun k hk => ?_⟩
       injection hk with hk; subst hk
      ·refine ⟨hmk, by omega, by omega, fun m hm hu => ?_⟩
       by_cases e : m = i
       ·subst e; exact Int.le_refl _
       ·have := p4 m (by omega) hu; omega
      ·refine ⟨p1, p2, by omega, fun m hm hu => ?_⟩
       by_cases e : m = i
       ·subst e; omega
       ·exact p4 m (by omega) hu
theorem scan1 (D : Dc) (line : Int) : ∀ i, i ≤ D.es.length → (scanF D line i).1 = manyE D.sets line (D.es.take i)
 | 0, _ => by simp [scanF, manyE]
 | i + 1, hi => by
  have ih := scan1 D line i (by omega)
  have htk : D.es.take (i + 1) = D.es.take i ++ [D.es[i]] := by rw [List.take_add_one, List.getElem?_eq_getElem (by omega)]; rfl
  rw [htk, many_snoc, ← ih]
  simp only [scanF, stepF, getD_is (show i < D.es.length by omega)]
  by_cases h : D.es[i].line % D.sets = line % D.sets
  ·rw [if_pos h]
   show (scanF D line i).1 + 1 = _
   rw [if_pos (by simpa using h)]
  ·rw [if_neg h, if_neg (by simpa using h)]; rfl
theorem scan2 (D : Dc) (line : Int) : ∀ i, ((scanF D line i).2 = none → ∀ m, m < i → (D.es.getD m zE).line % D.sets = line % D.sets → mk (D.es.getD m zE) = true) ∧ ∀ k, (scanF D line i).2 = some k → k < i ∧ (D.es.getD k zE).line % D.sets = line % D.sets ∧ mk (D.es.getD k zE) = false ∧ ∀ m, m < i → (D.es.getD m zE).line % D.sets = line % D.sets → mk (D.es.getD m zE) = false → (D.es.getD k zE).used ≤ (D.es.getD m zE).used
 | 0 => ⟨fun _ m hm => by omega, fun k hk => by simp [scanF] at hk⟩
 | i + 1 => by
  obtain ⟨a1, a2⟩ := scan2 D line i
  have e : scanF D line (i + 1) = stepF D line (scanF D line i) i := rfl
  rw [e]
  generalize scanF D line i = q at a1 a2
  unfold stepF
  by_cases hp : (D.es.getD i zE).line % D.sets = line % D.sets
  ·rw [if_pos hp]
   by_cases hm : mk (D.es.getD i zE) = true
   ·have hm' : ((D.es.getD i zE).rd || (D.es.getD i zE).wr) = true := hm
    simp only [hm', if_true]
    refine ⟨fun hn m hm2 hpm => ?_, fun k hk => ?_⟩
    ·by_cases e : m = i
     ·subst e; exact hm
     ·exact a1 hn m (by omega) hpm
    ·obtain ⟨p1, p2, p3, p4⟩ := a2 k hk
     refine ⟨by omega, p2, p3, fun m hm2 hpm hu => ?_⟩
     by_cases e : m = i
     ·subst e; rw [hm] at hu; cases hu
     ·exact p4 m (by omega) hpm hu
   ·have hm : mk (D.es.getD i zE) = false := by simpa using hm
    have hm' : ((D.es.getD i zE).rd || (D.es.getD i zE).wr) = false := hm
    simp only [hm', Bool.false_eq_true, if_false]
    cases hq : q.2 with
    | none =>
     simp only
     refine ⟨fun hn => (by cases hn), fun k hk => ?_⟩
     injection hk with hk; subst hk
     refine ⟨by omega, hp, hm, fun m hm2 hpm hu => ?_⟩
     by_cases e : m = i
     ·subst e; exact Int.le_refl _
     ·rw [a1 hq m (by omega) hpm] at hu; cases hu
    | some z =>
     obtain ⟨p1, p2, p3, p4⟩ := a2 z hq
     simp only
     split
     all_goals
      rename_i hlt
      refine ⟨fun hn => (by cases hn), fun k hk => ?_⟩
      injection hk with hk; subst hk
     ·refine ⟨by omega, hp, hm, fun m hm2 hpm hu => ?_⟩
      by_cases e : m = i
      ·subst e; exact Int.le_refl _
      ·have := p4 m (by omega) hpm hu; omega
     ·refine ⟨by omega, p2, p3, fun m hm2 hpm hu => ?_⟩
      by_cases e : m = i
      ·subst e; omega
      ·exact p4 m (by omega) hpm hu
  ·rw [if_neg hp]
   refine ⟨fun hn m hm2 hpm => ?_, fun k hk => ?_⟩
   ·by_cases e : m = i
    ·subst e; exact absurd hpm hp
    ·exact a1 hn m (by omega) hpm
   ·obtain ⟨p1, p2, p3, p4⟩ := a2 k hk
    refine ⟨by omega, p2, p3, fun m hm2 hpm hu => ?_⟩
    by_cases e : m = i
    ·subst e; exact absurd hpm hp
    ·exact p4 m (by omega) hpm hu
theorem emod_toNat {x : Int} (hx : 0 ≤ x) (s : Nat) : x % (s : Int) = ((x.toNat % s : Nat) : Int) := by
 obtain ⟨n, rfl⟩ := Int.eq_ofNat_of_zero_le hx
 rw [← Int.natCast_emod]
 rfl
theorem win_same {c : Ca} (iv : Inv c) {L : Int} (hL : 0 ≤ L) {j : Nat} (hj : j < c.n) (hs : (c.sl j).st ≠ 0) (h1 : c.from L ≤ j) (h2 : j < c.from L + c.ways) : (c.sl j).line % (c.sets : Int) = L % (c.sets : Int) := by
 obtain ⟨h3, h4, h5⟩ := iv.lo j hj hs
 rw [emod_toNat h3, emod_toNat hL]
 congr 1
 unfold Ca.from at *
 generalize (c.sl j).line.toNat % c.sets = p at *
 generalize L.toNat % c.sets = q at *
 rcases Nat.lt_trichotomy p q with h | h | h
 ·have := Nat.mul_le_mul_right c.ways h
  rw [Nat.succ_eq_add_one, Nat.add_mul, Nat.one_mul] at this
  omega
 ·exact h
 ·have := Nat.mul_le_mul_right c.ways h
  rw [Nat.succ_eq_add_one, Nat.add_mul, Nat.one_mul] at this
  omega
theorem many_full {c : Ca} (iv : Inv c) {L : Int} (hL : 0 ≤ L) (h : ∀ m, m < c.ways → (c.sl (c.from L + m)).st ≠ 0) : ∀ i, i ≤ c.n → min c.ways (i - c.from L) ≤ manyE c.sets L (hlTo c i)
 | 0, _ => by omega
 | i + 1, hi => by
  have ih := many_full iv hL h i (by omega)
  rw [hlTo_succ]
  by_cases hw : c.from L ≤ i ∧ i < c.from L + c.ways
  ·have hs := h (i - c.from L) (by omega)
   rw [show c.from L + (i - c.from L) = i by omega] at hs
   rw [if_pos (by simpa using hs), many_snoc, if_pos (by simpa using win_same iv hL hi hs hw.1 hw.2)]
   omega
  ·unfold manyE at *
   rw [List.countP_append]
   omega
theorem many_free {c : Ca} (ok : CaOk c) (iv : Inv c) {L : Int} (hL : 0 ≤ L) {f : Nat} (hf : (c.sl f).st = 0) (h1 : c.from L ≤ f) (h2 : f < c.from L + c.ways) : ∀ i, i ≤ c.n → manyE c.sets L (hlTo c i) + (if f < i then 1 else 0) ≤ min c.ways (i - c.from L)
 | 0, _ => by simp [hlTo, manyE]
 | i + 1, hi => by
  have ih := many_free ok iv hL hf h1 h2 i (by omega)
  rw [hlTo_succ]
  by_cases hs : (c.sl i).st = 0
  ·rw [if_neg (by simp [hs]), List.append_nil]
   split at ih <;> split <;> omega
  ·have hne : f ≠ i := fun e => hs (e ▸ hf)
   rw [if_pos (by simpa using hs), many_snoc]
   split
   ·rename_i h
    have h := of_decide_eq_true h
    obtain ⟨g1, g2, g3⟩ := iv.lo i hi hs
    rw [from_same ok g1 hL h] at g2 g3
    split at ih <;> split <;> omega
   ·split at ih <;> split <;> omega
theorem fill_rel {c : Ca} {D : Dc} (ok : CaOk c) (iv : Inv c) (s : St c) (r : Rel c D) (N st : Int) (d : Nat → Int) : fillA c N st = fillDA D N st ∧ Rel (fillC c N st d) (fillD D N st d) ∧ St (fillC c N st d) := by
 unfold fillA fillC fillDA fillD
 by_cases ha : argB N st = true
 ·simp only [ha, if_true]; exact ⟨by trivial, r, s⟩
 obtain ⟨hN, hst⟩ := arg_no ha
 simp only [if_neg ha]
 cases hat : atC c N with
 | some j =>
  obtain ⟨i, hi, h2, _⟩ := at_rel ok r hat
  rw [h2]
  exact ⟨rfl, r, s⟩
 | none =>
  rw [at_none iv r hat]
  simp only
  have hne : ∀ x ∈ D.es, x.line ≠ N := fun x hx => by
   obtain ⟨j, hj, rfl, hs⟩ := hl_mem (r.p.mem_iff.1 hx)
   exact atC_none iv hat hj hs
  have hmany : (scanF D N D.es.length).1 = manyE c.sets N (hlTo c c.n) := by
   rw [scan1 D N _ (Nat.le_refl _), List.take_of_length_le (Nat.le_refl _), r.s]
   unfold manyE
   exact r.p.countP_eq _
  have hw := Ca.from_lt ok N (i := c.ways - 1) (by have := ok.w1; omega)
  have hw1 := ok.w1
  have hst0 : st ≠ 0 := by omega
  unfold roomC
  cases hq : rmTo c (c.from N) c.ways with
  | mk x o =>
   obtain ⟨g1, g2⟩ := rm_in c _ c.ways x o hq
   cases x with
   | some k =>
    obtain ⟨k1, k2, k3⟩ := g1 k rfl
    have hkn : k < c.n := by omega
    have hm := many_free ok iv hN k3 k1 k2 c.n (Nat.le_refl _)
    rw [if_pos hkn] at hm
    have hnw : ¬ ((scanF D N D.es.length).1 : Int) = D.ways := by rw [hmany, r.w]; omega
    simp only [if_neg hnw]
    rw [r.u]
    refine ⟨?_, r.more hkn k3 hst0 hne _, s.use hst0 rfl⟩
    rw [s.fr k hkn k3]; rfl
   | none =>
    obtain ⟨h1, h2, h3⟩ := rm_no c _ c.ways o hq
    have hm1 := many_full iv hN h1 c.n (Nat.le_refl _)
    have hm2 := (many_le ok iv hN c.n (Nat.le_refl _)).1
    have hww : ((scanF D N D.es.length).1 : Int) = D.ways := by rw [hmany, r.w]; omega
    simp only [if_pos hww]
    obtain ⟨b1, b2⟩ := scan2 D N D.es.length
    -- an entry of the set stands in its window
    have inw : ∀ (i : Nat) (hi : i < D.es.length), D.es[i].line % D.sets = N % D.sets → ∃ j, j < c.n ∧ (c.sl j).st ≠ 0 ∧ c.sl j = D.es[i] ∧ c.from N ≤ j ∧ j < c.from N + c.ways := fun i hi hp => by
     obtain ⟨j, hj, e, hs⟩ := hl_mem (r.p.mem_iff.1 (List.getElem_mem hi))
     rw [← e] at hs hp
     obtain ⟨q1, q2, q3⟩ := iv.lo j hj hs
     rw [r.s] at hp
     rw [from_same ok q1 hN hp] at q2 q3
     exact ⟨j, hj, hs, e, q2, q3⟩
    cases o with
    | none =>
     cases hsc : (scanF D N D.es.length).2 with
     | none => exact ⟨rfl, r, s⟩
     | some k =>
      exfalso
      obtain ⟨p1, p2, p3, _⟩ := b2 k hsc
      rw [getD_is p1] at p2 p3
      obtain ⟨j, _, _, e, w1, w2⟩ := inw k p1 p2
      have := h2 rfl (j - c.from N) (by omega)
      rw [show c.from N + (j - c.from N) = j by omega, e, p3] at this
      cases this
    | some k =>
     obtain ⟨u1, u2, u3, u4⟩ := h3 k rfl
     have hkn : k < c.n := by omega
     have hks : (c.sl k).st ≠ 0 := by
      have := h1 (k - c.from N) (by omega)
      rw [show c.from N + (k - c.from N) = k by omega] at this
      exact this
     obtain ⟨i0, hi0, _, e0⟩ := at_rel ok r (atC_some ok iv hkn hks)
     have hsame : (D.es.getD i0 zE).line % D.sets = N % D.sets := by
      rw [getD_is hi0, e0, r.s]; exact win_same iv hN hkn hks u2 u3
     cases hsc : (scanF D N D.es.length).2 with
     | none =>
      exfalso
      have := b1 hsc i0 hi0 hsame
      rw [getD_is hi0, e0, u1] at this
      cases this
     | some k' =>
      obtain ⟨p1, p2, p3, p4⟩ := b2 k' hsc
      have p5 := p4 i0 hi0 hsame (by rw [getD_is hi0, e0]; exact u1)
      rw [getD_is p1] at p2 p3 p5
      rw [getD_is hi0, e0] at p5
      obtain ⟨j, hjn, hjs, e, w1, w2⟩ := inw k' p1 p2
      have u5 := u4 (j - c.from N) (by omega) (by rw [show c.from N + (j - c.from N) = j by omega, e]; exact p3)
      rw [show c.from N + (j - c.from N) = j by omega] at u5
      have hjk : j = k := s.ne j k hjn hkn hjs hks (by rw [e] at u5 ⊢; omega)
      subst hjk
      simp only [getD_is p1]
      rw [r.u]
      refine ⟨?_, ?_, s.use hst0 rfl⟩
      ·rw [← e]; simp [hjs]
      ·have r1 := r.less iv hjn hjs p1 e.symm
       have r2 := r1.more (j := j) hjn (by simp [upd_at, zE]) (e := fillE N st d (c.uses + 1)) hst0 (fun x hx => hne x (by
        rcases List.mem_append.1 hx with h | h
        ·exact List.mem_of_mem_take h
        ·exact List.mem_of_mem_drop h)) (c.uses + 1)
       simp only [upd_upd] at r2
       exact r2
def stepD (D : Dc) (x : Sp) : Dc :=
 if x.kind = 0 then fillD D x.n x.state x.l else if x.kind = 1 then wordD D x.n else if x.kind = 2 then putDD D x.n x.v else if x.kind = 3 then markD D x.n x.write
 else if x.kind = 4 then demD D x.n else if x.kind = 5 then proD D x.n x.l else if x.kind = 6 then dropD D x.n else if x.kind = 7 then comD D else if x.kind = 8 then disD D else D
theorem held_in {c : Ca} (ok : CaOk c) {line st : Int} {j : Nat} (h : inC c line st = some j) : j < c.n ∧ (c.sl j).st ≠ 0 := ⟨(inC_hit ok h).2.2, (inC_hit ok h).1⟩
theorem word_rel {c : Ca} {D : Dc} (ok : CaOk c) (iv : Inv c) (s : St c) (r : Rel c D) (a : Int) : wordV c a = wordDV D a ∧ Rel (wordC c a) (wordD D a) ∧ St (wordC c a) := by
 unfold wordV wordC wordDV wordD
 by_cases ha : a < 0
 ·simp only [if_pos ha]; exact ⟨by trivial, r, s⟩
 simp only [if_neg ha]
 cases h : inC c (quo8 a) 0 with
 | none =>
  have hn : atC c (quo8 a) = none := by
   unfold inC at h
   cases hq : atC c (quo8 a) with
   | none => rfl
   | some j => rw [hq] at h; cases h
  rw [at_none iv r hn]
  exact ⟨rfl, r, s⟩
 | some j =>
  obtain ⟨i, hi, h2, _, h3⟩ := in_rel ok r h
  obtain ⟨hj, hs⟩ := held_in ok h
  rw [h2]
  simp only [getD_is hi, h3, r.u]
  exact ⟨by trivial, r.turn iv hj hs hi h3 (e := { c.sl j with used := c.uses + 1 }) hs rfl _, s.use hs rfl⟩
theorem put_rel {c : Ca} {D : Dc} (ok : CaOk c) (iv : Inv c) (s : St c) (r : Rel c D) (a v : Int) : putV c a = putDV D a ∧ Rel (putC c a v) (putDD D a v) ∧ St (putC c a v) := by
 by_cases ha : a < 0
 ·unfold putV putC putDV putDD
  simp only [if_pos ha]; exact ⟨by trivial, r, s⟩
 cases h : inC c (quo8 a) 2 with
 | none =>
  unfold putV putC putDV putDD
  simp only [if_neg ha]
  rw [← inE_rel ok iv r, in_none ok iv r h]
  unfold inE
  rw [h]
  exact ⟨rfl, r, s⟩
 | some j =>
  obtain ⟨i, hi, _, h2, h3⟩ := in_rel ok r h
  obtain ⟨hj, hs⟩ := held_in ok h
  rw [put_eq ha h]
  unfold putV putDV putDD
  simp only [if_neg ha]
  rw [← inE_rel ok iv r, h2]
  unfold inE
  rw [h]
  simp only [getD_is hi, h3, r.u]
  exact ⟨by trivial, r.turn iv hj hs hi h3 (e := { c.sl j with used := c.uses + 1, d := putD (c.sl j).d (a % 8).toNat v }) hs rfl _, s.use hs rfl⟩
theorem mark_rel {c : Ca} {D : Dc} (ok : CaOk c) (iv : Inv c) (s : St c) (r : Rel c D) (line : Int) (w : Bool) : markV c line w = markDV D line w ∧ Rel (markC c line w) (markD D line w) ∧ St (markC c line w) := by
 refine ⟨by unfold markV markDV; rw [inE_rel ok iv r], ?_⟩
 cases w with
 | true =>
  simp only [markC, markD, if_true]
  cases h : inC c line 2 with
  | none => rw [in_none ok iv r h]; exact ⟨r, s⟩
  | some j =>
   obtain ⟨i, hi, _, h2, h3⟩ := in_rel ok r h
   obtain ⟨hj, hs⟩ := held_in ok h
   rw [h2]
   simp only [getD_is hi, h3, turn]
   have hr := fun e he hl => r.turn iv hj hs hi h3 (e := e) he hl c.uses
   have hd : ∀ l, ({ D with uses := c.uses, es := l } : Dc) = { D with es := l } := fun l => by rw [← r.u]
   by_cases hw : (c.sl j).wr = true
   ·simp only [hw, if_true]
    have hsame : ({ c.sl j with wr := true } : En) = c.sl j := by rw [← hw]
    rw [hsame, ← h3, List.set_getElem_self hi]
    exact ⟨r, s⟩
   ·simp only [if_neg hw]
    have := hr { c.sl j with wr := true, o := (c.sl j).d } hs rfl
    rw [hd] at this
    exact ⟨this, s.same hs hs rfl⟩
 | false =>
  simp only [markC, markD, Bool.false_eq_true, if_false]
  cases h : inC c line 0 with
  | none =>
   have hn : atC c line = none := by
    unfold inC at h
    cases hq : atC c line with
    | none => rfl
    | some j => rw [hq] at h; cases h
   rw [at_none iv r hn]; exact ⟨r, s⟩
  | some j =>
   obtain ⟨i, hi, h2, _, h3⟩ := in_rel ok r h
   obtain ⟨hj, hs⟩ := held_in ok h
   rw [h2]
   simp only [getD_is hi, h3, turn]
   have := r.turn iv hj hs hi h3 (e := { c.sl j with rd := true }) hs rfl c.uses
   rw [← r.u] at this
   have hc : ({ c with uses := D.uses, sl := upd c.sl j { c.sl j with rd := true } } : Ca) = { c with sl := upd c.sl j { c.sl j with rd := true } } := by rw [r.u]
   rw [hc] at this
   exact ⟨this, s.same hs hs rfl⟩
theorem dem_rel {c : Ca} {D : Dc} (ok : CaOk c) (iv : Inv c) (s : St c) (r : Rel c D) (line : Int) : demV c line = demDV D line ∧ Rel (demC c line) (demD D line) ∧ St (demC c line) := by
 unfold demV demDV demC demD
 cases h : inC c line 2 with
 | none => rw [in_none ok iv r h]; exact ⟨rfl, r, s⟩
 | some j =>
  obtain ⟨i, hi, _, h2, h3⟩ := in_rel ok r h
  obtain ⟨hj, hs⟩ := held_in ok h
  rw [h2]
  simp only [getD_is hi, h3, turn]
  have := r.turn iv hj hs hi h3 (e := { c.sl j with st := 1 }) (by simp) rfl c.uses
  rw [← r.u] at this
  have hc : ({ c with uses := D.uses, sl := upd c.sl j { c.sl j with st := 1 } } : Ca) = { c with sl := upd c.sl j { c.sl j with st := 1 } } := by rw [r.u]
  rw [hc] at this
  exact ⟨by trivial, this, s.same hs (by simp) rfl⟩
theorem pro_rel {c : Ca} {D : Dc} (ok : CaOk c) (iv : Inv c) (s : St c) (r : Rel c D) (line : Int) (d : Nat → Int) : inE c line 1 = inLE D.es line 1 ∧ Rel (proC c line d) (proD D line d) ∧ St (proC c line d) := by
 refine ⟨inE_rel ok iv r line 1, ?_⟩
 unfold proC proD
 cases h : inC c line 1 with
 | none => rw [in_none ok iv r h]; exact ⟨r, s⟩
 | some j =>
  obtain ⟨i, hi, _, h2, h3⟩ := in_rel ok r h
  obtain ⟨hj, hs⟩ := held_in ok h
  rw [h2]
  simp only [getD_is hi, h3, turn]
  have := r.turn iv hj hs hi h3 (e := { c.sl j with st := 2, d := d }) (by simp) rfl c.uses
  rw [← r.u] at this
  have hc : ({ c with uses := D.uses, sl := upd c.sl j { c.sl j with st := 2, d := d } } : Ca) = { c with sl := upd c.sl j { c.sl j with st := 2, d := d } } := by rw [r.u]
  rw [hc] at this
  exact ⟨this, s.same hs (by simp) rfl⟩
theorem drop_rel {c : Ca} {D : Dc} (ok : CaOk c) (iv : Inv c) (s : St c) (r : Rel c D) (line : Int) : dropV c line = dropDV D line ∧ Rel (dropC c line) (dropD D line) ∧ St (dropC c line) := by
 unfold dropV dropDV dropC dropD
 cases h : inC c line 0 with
 | none =>
  have hn : atC c line = none := by
   unfold inC at h
   cases hq : atC c line with
   | none => rfl
   | some j => rw [hq] at h; cases h
  rw [at_none iv r hn]; exact ⟨rfl, r, s⟩
 | some j =>
  obtain ⟨i, hi, h2, _, h3⟩ := in_rel ok r h
  obtain ⟨hj, hs⟩ := held_in ok h
  rw [h2]
  simp only [getD_is hi, h3]
  exact ⟨by trivial, r.less iv hj hs hi h3, s.gone j⟩
theorem find_rel {c : Ca} {D : Dc} (ok : CaOk c) (iv : Inv c) (r : Rel c D) (line : Int) : findV c line = findDV D line := by
 unfold findV findDV
 cases h : atC c line with
 | none => rw [at_none iv r h]
 | some j =>
  obtain ⟨i, hi, h2, h3⟩ := at_rel ok r h
  rw [h2]
  simp only [getD_is hi, h3]
theorem com_rel {c : Ca} {D : Dc} (s : St c) (r : Rel c D) : Rel (comC c) (comD D) ∧ St (comC c) := by
 refine ⟨r.gen (fun e => (clr_ls e).2) (fun e he => by unfold clr clrE; rw [if_neg he]) (fun e => rfl), s.gen (fun e => ⟨(clr_ls e).2, ?_⟩) (fun e he => by unfold clr; rw [if_pos he]) c.n⟩
 unfold clr; split <;> rfl
theorem dis_rel {c : Ca} {D : Dc} (s : St c) (r : Rel c D) : Rel (disC c) (disD D) ∧ St (disC c) := by
 have h1 : Rel (genTo dis c c.n) { D with es := D.es.map disE } := r.gen (fun e => (dis_ls e).2) (fun e he => by unfold dis disE; rw [if_neg he]) (fun e => by unfold disE; split <;> rfl)
 have hu : ∀ e, (dis e).used = e.used := fun e => by
  unfold dis
  split
  ·rfl
  ·split <;> rfl
 have h2 : St (genTo dis c c.n) := s.gen (fun e => ⟨(dis_ls e).2, hu e⟩) (fun e he => by unfold dis; rw [if_pos he]) c.n
 exact com_rel h2 h1
theorem step_rel {c : Ca} {D : Dc} (ok : CaOk c) (iv : Inv c) (s : St c) (r : Rel c D) (x : Sp) : Rel (stepC c x) (stepD D x) ∧ St (stepC c x) := by
 unfold stepC stepD
 repeat' split
 ·exact (fill_rel ok iv s r _ _ _).2
 ·exact (word_rel ok iv s r _).2
 ·exact (put_rel ok iv s r _ _).2
 ·exact (mark_rel ok iv s r _ _).2
 ·exact (dem_rel ok iv s r _).2
 ·exact (pro_rel ok iv s r _ _).2
 ·exact (drop_rel ok iv s r _).2
 ·exact com_rel s r
 ·exact dis_rel s r
 ·exact ⟨r, s⟩
theorem all_is {c : Ca} {D : Dc} (r : Rel c D) {es : List En} (h1 : es.Perm (hlTo c c.n)) (h2 : es.Pairwise fun x y => x.line ≤ y.line) (iv : Inv c) : es = D.es := by
 refine List.Perm.eq_of_pairwise (le := fun x y : En => x.line ≤ y.line) (fun a b ha hb h5 h6 => ?_) h2 (r.o.imp fun h => Int.le_of_lt h) (h1.trans r.p.symm)
 obtain ⟨j, hj, rfl, hs⟩ := hl_mem (h1.mem_iff.1 ha)
 obtain ⟨k, hk, rfl, ht⟩ := hl_mem (r.p.mem_iff.1 hb)
 rw [iv.one j k hj hk hs ht (Int.le_antisymm h5 h6)]
theorem rel_len {c : Ca} {D : Dc} (ok : CaOk c) (r : Rel c D) : D.es.length ≤ 32 := by
 rw [r.p.length_eq]; exact Nat.le_trans (hlTo_len _ _) ok.n32
end Go.Proofs.Ytimmobbginjkfaa
