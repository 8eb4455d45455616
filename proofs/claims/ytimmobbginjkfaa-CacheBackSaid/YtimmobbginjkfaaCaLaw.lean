/- The plain law of CacheBack. -/
import Derived.Test.YtimmobbginjkfaaCaW10
import Derived.Test.YtimmobbginjkfaaCaW9
import Derived.Test.YtimmobbginjkfaaCaInv
set_option linter.unusedSimpArgs false
set_option linter.unusedVariables false
set_option linter.unnecessarySimpa false
namespace Go.Proofs.Ytimmobbginjkfaa
open Go Go.Sx Go.Ca
def backC (c : Ca) (p : Int × Int) : Ca := if p.1 < 0 then c else if inE c (quo8 p.1) 2 = 0 then wordC (putC (markC c (quo8 p.1) true) p.1 p.2) p.1 else markC c (quo8 p.1) true
def backs (c : Ca) (ps : List (Int × Int)) : Ca := ps.foldl backC c
theorem backs_snoc (c : Ca) (ps : List (Int × Int)) (p : Int × Int) : backs c (ps ++ [p]) = backC (backs c ps) p := by unfold backs; rw [List.foldl_append]; rfl
theorem atTo_congr {c c' : Ca} (hs : c'.sets = c.sets) (hw : c'.ways = c.ways) (h : ∀ j, (c'.sl j).line = (c.sl j).line ∧ (c'.sl j).st = (c.sl j).st) (line : Int) : ∀ i, atTo c' line i = atTo c line i
 | 0 => rfl
 | i + 1 => by
  have hf := from_of hs hw line
  have hh : hitB line (c'.sl (c.from line + i)) = hitB line (c.sl (c.from line + i)) := by
   unfold hitB; rw [(h _).1, (h _).2]
  simp only [atTo]
  rw [atTo_congr hs hw h line i, hf, hh]
theorem inC_congr {c c' : Ca} (hs : c'.sets = c.sets) (hw : c'.ways = c.ways) (h : ∀ j, (c'.sl j).line = (c.sl j).line ∧ (c'.sl j).st = (c.sl j).st) (line st : Int) : inC c' line st = inC c line st := by
 have : atC c' line = atC c line := by
  unfold atC; rw [hw, atTo_congr hs hw h line c.ways]
 unfold inC
 rw [this]
 split
 ·rename_i j _; rw [(h j).2]
 ·rfl
theorem upd_ls {f : Nat → En} {i : Nat} {e : En} (h : e.line = (f i).line ∧ e.st = (f i).st) (j : Nat) : (upd f i e j).line = (f j).line ∧ (upd f i e j).st = (f j).st := by
 by_cases hj : j = i
 ·subst hj; rw [upd_at]; exact h
 ·rw [upd_ne _ _ hj]; exact ⟨rfl, rfl⟩
theorem inE_zero {c : Ca} {line st : Int} (h : inE c line st = 0) : ∃ j, inC c line st = some j := by
 unfold inE at h
 split at h
 ·rename_i j hj; exact ⟨j, hj⟩
 ·cases h
theorem mark_ls (c : Ca) (q : Int) (k : Nat) : ((markC c q true).sl k).line = (c.sl k).line ∧ ((markC c q true).sl k).st = (c.sl k).st := by
 simp only [markC, if_true]
 split
 ·rename_i j _
  split
  ·exact ⟨rfl, rfl⟩
  ·exact upd_ls (f := c.sl) (i := j) (e := { c.sl j with wr := true, o := (c.sl j).d }) ⟨rfl, rfl⟩ k
 ·exact ⟨rfl, rfl⟩
theorem mark_in (c : Ca) (q s : Int) : inC (markC c q true) q s = inC c q s := inC_congr (mark_like c q true).s (mark_like c q true).w (mark_ls c q) q s
theorem mark_wr {c : Ca} {q : Int} {j : Nat} (h : inC c q 2 = some j) : ((markC c q true).sl j).wr = true := by
 simp only [markC, if_true, h]
 split
 ·assumption
 ·show (upd c.sl j _ j).wr = true
  rw [upd_at]
theorem put_eq {c : Ca} {a u : Int} (ha : ¬ a < 0) {j : Nat} (h : inC c (quo8 a) 2 = some j) : putC c a u = { c with uses := c.uses + 1, sl := upd c.sl j { c.sl j with used := c.uses + 1, d := putD (c.sl j).d (a % 8).toNat u } } := by
 unfold putC
 rw [if_neg ha, h]
 have e : (useC c j).sl j = { c.sl j with used := c.uses + 1 } := upd_at _ _ _
 simp only [e]
 have e2 : ∀ x, Go.Ca.upd (useC c j).sl j x = Go.Ca.upd c.sl j x := fun x => upd_upd _ _ _ _
 rw [e2]
 rfl
theorem in_any {c : Ca} {q : Int} {j : Nat} (h : inC c q 2 = some j) : inC c q 0 = some j := by
 obtain ⟨h1, _⟩ := inC_at h
 unfold inC; rw [h1]; rfl
theorem back_word {c : Ca} {a u : Int} (ha : ¬ a < 0) (h : inE c (quo8 a) 2 = 0) : wordV (putC (markC c (quo8 a) true) a u) a = .tuple #[.int .u64 u, .int .i64 0] := by
 obtain ⟨j, hj⟩ := inE_zero h
 have hm : inC (markC c (quo8 a) true) (quo8 a) 2 = some j := by rw [mark_in]; exact hj
 rw [put_eq ha hm]
 generalize markC c (quo8 a) true = m at hm
 have h2 := in_any hm
 have h3 : inC { m with uses := m.uses + 1, sl := upd m.sl j { m.sl j with used := m.uses + 1, d := putD (m.sl j).d (a % 8).toNat u } } (quo8 a) 0 = some j := by
  exact (inC_congr (c := m) (c' := { m with uses := m.uses + 1, sl := upd m.sl j { m.sl j with used := m.uses + 1, d := putD (m.sl j).d (a % 8).toNat u } }) rfl rfl (upd_ls (f := m.sl) (i := j) (e := { m.sl j with used := m.uses + 1, d := putD (m.sl j).d (a % 8).toNat u }) ⟨rfl, rfl⟩) _ _).trans h2
 unfold wordV
 rw [if_neg ha, h3]
 simp only [upd_at, putD, if_true]
structure BackR (c c' : Ca) : Prop where
 s : c'.sets = c.sets
 w : c'.ways = c.ways
 l : ∀ (j : Nat), (c'.sl j).line = (c.sl j).line ∧ (c'.sl j).st = (c.sl j).st
 h : ∀ (j : Nat), j < c.n → (c.sl j).st ≠ 0 → (c'.sl j).rd = (c.sl j).rd ∧ (((c'.sl j).wr = false ∧ (c'.sl j).d = (c.sl j).d) ∨ ((c'.sl j).wr = true ∧ (c'.sl j).o = (c.sl j).d))
theorem BackR.use {c c' : Ca} (r : BackR c c') (j : Nat) : BackR c (useC c' j) := ⟨r.s, r.w, fun k => by
 have := upd_ls (f := c'.sl) (i := j) (e := { c'.sl j with used := c'.uses + 1 }) ⟨rfl, rfl⟩ k
 have h := r.l k
 show (upd c'.sl j _ k).line = _ ∧ (upd c'.sl j _ k).st = _
 rw [this.1, this.2]; exact h, fun k hk hs => by
 have h := r.h k hk hs
 show (upd c'.sl j _ k).rd = _ ∧ (((upd c'.sl j _ k).wr = _ ∧ (upd c'.sl j _ k).d = _) ∨ ((upd c'.sl j _ k).wr = _ ∧ (upd c'.sl j _ k).o = _))
 by_cases e : k = j
 ·subst e; rw [upd_at]; exact h
 ·rw [upd_ne _ _ e]; exact h⟩
theorem BackR.mark {c c' : Ca} (r : BackR c c') (q : Int) : BackR c (markC c' q true) := ⟨(mark_like c' q true).s.trans r.s, (mark_like c' q true).w.trans r.w, fun k => by
 have := mark_ls c' q k
 rw [this.1, this.2]; exact r.l k, fun k hk hs => by
 have h := r.h k hk hs
 simp only [markC, if_true]
 split
 ·rename_i j hj
  split
  ·exact h
  ·rename_i hw
   have hw : (c'.sl j).wr = false := by simpa using hw
   show (upd c'.sl j _ k).rd = _ ∧ (((upd c'.sl j _ k).wr = _ ∧ (upd c'.sl j _ k).d = _) ∨ ((upd c'.sl j _ k).wr = _ ∧ (upd c'.sl j _ k).o = _))
   by_cases e : k = j
   ·subst e; rw [upd_at]
    refine ⟨h.1, .inr ⟨rfl, ?_⟩⟩
    rcases h.2 with h2 | h2
    ·exact h2.2
    ·rw [hw] at h2; cases h2.1
   ·rw [upd_ne _ _ e]; exact h
 ·exact h⟩
theorem BackR.put {c c' : Ca} (r : BackR c c') {a u : Int} (ha : ¬ a < 0) {j : Nat} (hj : inC c' (quo8 a) 2 = some j) (hw : (c'.sl j).wr = true) : BackR c (putC c' a u) := by
 rw [put_eq ha hj]
 refine ⟨r.s, r.w, fun k => ?_, fun k hk hs => ?_⟩
 ·have := upd_ls (f := c'.sl) (i := j) (e := { c'.sl j with used := c'.uses + 1, d := putD (c'.sl j).d (a % 8).toNat u }) ⟨rfl, rfl⟩ k
  show (upd c'.sl j _ k).line = _ ∧ (upd c'.sl j _ k).st = _
  rw [this.1, this.2]; exact r.l k
 ·have h := r.h k hk hs
  show (upd c'.sl j _ k).rd = _ ∧ (((upd c'.sl j _ k).wr = _ ∧ (upd c'.sl j _ k).d = _) ∨ ((upd c'.sl j _ k).wr = _ ∧ (upd c'.sl j _ k).o = _))
  by_cases e : k = j
  ·subst e; rw [upd_at]
   refine ⟨h.1, .inr ⟨hw, ?_⟩⟩
   rcases h.2 with h2 | h2
   ·rw [hw] at h2; cases h2.1
   ·exact h2.2
  ·rw [upd_ne _ _ e]; exact h
theorem BackR.word {c c' : Ca} (r : BackR c c') (a : Int) : BackR c (wordC c' a) := by
 unfold wordC
 split
 ·exact r
 ·split
  ·exact r.use _
  ·exact r
theorem BackR.back {c c' : Ca} (r : BackR c c') (p : Int × Int) : BackR c (backC c' p) := by
 unfold backC
 split
 ·exact r
 ·rename_i ha
  split
  ·rename_i h
   obtain ⟨j, hj⟩ := inE_zero h
   exact ((r.mark _).put ha (by rw [mark_in]; exact hj) (mark_wr hj)).word _
  ·exact r.mark _
theorem BackR.backs {c : Ca} : ∀ (ps : List (Int × Int)) {c' : Ca}, BackR c c' → BackR c (backs c' ps)
 | [], _, r => r
 | p :: ps, _, r => BackR.backs ps (r.back p)
def sameE (x y : En) : Prop := x.line = y.line ∧ x.st = y.st ∧ x.rd = y.rd ∧ x.wr = y.wr ∧ (∀ k, k < 8 → x.d k = y.d k) ∧ ∀ k, k < 8 → x.o k = y.o k
def keyE (e : En) : En := { e with used := 0 }
theorem keyE_same {x y : En} (h : keyE x = keyE y) : sameE x y := by
 unfold keyE at h
 injection h with h1 h2 h3 h4 h5 h6 h7
 exact ⟨h1, h2, h3, h4, fun k _ => by rw [h5], fun k _ => by rw [h6]⟩
theorem dis_key {c c' : Ca} (r : BackR c c') (hc : ∀ (j : Nat), j < c.n → (c.sl j).st ≠ 0 → (c.sl j).rd = false ∧ (c.sl j).wr = false ∧ (c.sl j).o = zF) {j : Nat} (hj : j < c.n) : ((disC c').sl j).st = (c.sl j).st ∧ ((c.sl j).st ≠ 0 → keyE ((disC c').sl j) = keyE (c.sl j)) := by
 have hn : c'.n = c.n := n_of r.s r.w
 have e : (disC c').sl j = clr (dis (c'.sl j)) := by
  unfold disC comC
  simp only [genTo, gen_n, hn, if_pos hj]
  have : Ca.n { c' with sl := fun j => if j < c.n then dis (c'.sl j) else c'.sl j } = c.n := hn
  rw [this, if_pos hj]
 rw [e]
 have hl := r.l j
 refine ⟨by rw [(clr_ls _).2, (dis_ls _).2, hl.2], fun hs => ?_⟩
 obtain ⟨h1, h2, h3⟩ := hc j hj hs
 obtain ⟨h4, h5⟩ := r.h j hj hs
 have hs' : (c'.sl j).st ≠ 0 := by rw [hl.2]; exact hs
 have hd : (dis (c'.sl j)).d = (c.sl j).d ∧ (dis (c'.sl j)).line = (c.sl j).line ∧ (dis (c'.sl j)).st = (c.sl j).st := by
  refine ⟨?_, by rw [(dis_ls _).1, hl.1], by rw [(dis_ls _).2, hl.2]⟩
  unfold dis
  rw [if_neg hs']
  rcases h5 with h5 | h5
  ·rw [if_neg (by rw [h5.1]; simp)]; exact h5.2
  ·rw [if_pos h5.1]; exact h5.2
 unfold clr
 rw [if_neg (by rw [(dis_ls _).2]; exact hs')]
 obtain ⟨g1, g2, g3⟩ := hd
 unfold keyE
 simp only [g1, g2, g3, h1, h2, h3]
theorem hl_key {c c' : Ca} (r : BackR c c') (hc : ∀ (j : Nat), j < c.n → (c.sl j).st ≠ 0 → (c.sl j).rd = false ∧ (c.sl j).wr = false ∧ (c.sl j).o = zF) : ∀ i, i ≤ c.n → (hlTo (disC c') i).map keyE = (hlTo c i).map keyE
 | 0, _ => rfl
 | i + 1, hi => by
  obtain ⟨h1, h2⟩ := dis_key r hc (j := i) hi
  rw [hlTo_succ, hlTo_succ, List.map_append, List.map_append, hl_key r hc i (by omega), h1]
  congr 1
  split
  ·rename_i hs
   simp [h2 (by simpa using hs)]
  ·rfl
theorem back_same {c : Ca} (iv : Inv c) (hc : ∀ (j : Nat), j < c.n → (c.sl j).st ≠ 0 → (c.sl j).rd = false ∧ (c.sl j).wr = false ∧ (c.sl j).o = zF) {ps : List (Int × Int)} {es ns : List En} (h1 : es.Perm (hlTo c c.n)) (h2 : es.Pairwise fun x y => x.line ≤ y.line) (h3 : ns.Perm (hlTo (disC (backs c ps)) c.n)) (h4 : ns.Pairwise fun x y => x.line ≤ y.line) :
  ns.length = es.length ∧ ∀ (i : Nat) (hi : i < es.length) (hn : i < ns.length), sameE ns[i] es[i] := by
 have r : BackR c (backs c ps) := BackR.backs ps ⟨rfl, rfl, fun j => ⟨rfl, rfl⟩, fun j hj hs => ⟨rfl, .inl ⟨(hc j hj hs).2.1, rfl⟩⟩⟩
 have hk := hl_key r hc c.n (Nat.le_refl _)
 have hp : (ns.map keyE).Perm (es.map keyE) := ((h3.map keyE).trans (by rw [hk])).trans (h1.map keyE).symm
 have he : ns.map keyE = es.map keyE := by
  refine List.Perm.eq_of_pairwise (le := fun x y : En => x.line ≤ y.line) (fun a b ha hb h5 h6 => ?_) (List.pairwise_map.2 h4) (List.pairwise_map.2 h2) hp
  have ha := hp.mem_iff.1 ha
  obtain ⟨x, hx, rfl⟩ := List.mem_map.1 ha
  obtain ⟨y, hy, rfl⟩ := List.mem_map.1 hb
  have hl : x.line = y.line := Int.le_antisymm h5 h6
  obtain ⟨j, hj, rfl, hs⟩ := hl_mem (h1.mem_iff.1 hx)
  obtain ⟨k, hk2, rfl, ht⟩ := hl_mem (h1.mem_iff.1 hy)
  rw [iv.one j k hj hk2 hs ht hl]
 refine ⟨by simpa using congrArg List.length he, fun i hi hn => keyE_same ?_⟩
 have := List.getElem_of_eq he (i := i) (by simpa using hn)
 simpa using this
theorem com_clr (c : Ca) (j : Nat) (hj : j < (comC c).n) (hs : ((comC c).sl j).st ≠ 0) : ((comC c).sl j).rd = false ∧ ((comC c).sl j).wr = false ∧ ((comC c).sl j).o = zF := by
 have hj : j < c.n := hj
 have e : (comC c).sl j = clr (c.sl j) := by unfold comC; simp only [genTo, if_pos hj]
 rw [e] at hs ⊢
 rw [(clr_ls _).2] at hs
 unfold clr
 rw [if_neg hs]
 exact ⟨rfl, rfl, rfl⟩
theorem mark_uses (c : Ca) (a : Int) (w : Bool) : (markC c a w).uses = c.uses := by
 unfold markC
 repeat' split
 all_goals rfl
theorem back_like (c : Ca) (p : Int × Int) : (backC c p).sets = c.sets ∧ (backC c p).ways = c.ways ∧ c.uses ≤ (backC c p).uses ∧ (backC c p).uses ≤ c.uses + 2 := by
 unfold backC
 split
 ·exact ⟨rfl, rfl, by omega, by omega⟩
 ·split
  ·have m := mark_like c (quo8 p.1) true
   have pu := put_like (markC c (quo8 p.1) true) p.1 p.2
   have wo := word_like (putC (markC c (quo8 p.1) true) p.1 p.2) p.1
   refine ⟨by rw [wo.s, pu.s, m.s], by rw [wo.w, pu.w, m.w], ?_, ?_⟩
   all_goals have mu := mark_uses c (quo8 p.1) true
   all_goals rcases pu.u with e2 | e2 <;> rcases wo.u with e3 | e3 <;> omega
  ·have m := mark_like c (quo8 p.1) true
   exact ⟨m.s, m.w, by rcases m.u with e | e <;> omega, by rcases m.u with e | e <;> omega⟩
theorem backs_ok {c : Ca} (ok : CaOk c) : ∀ (ps : List (Int × Int)), c.uses + 2 * ps.length ≤ 999990 → CaOk (backs c ps) ∧ (backs c ps).uses ≤ c.uses + 2 * ps.length := by
 intro ps
 induction ps generalizing c with
 | nil => intro _; exact ⟨ok, by simp [backs]⟩
 | cons p ps ih =>
  intro h
  simp only [List.length_cons] at h
  obtain ⟨h1, h2, h3, h4⟩ := back_like c p
  have := ok.u0
  have ok2 : CaOk (backC c p) := ⟨h1 ▸ ok.s1, h1 ▸ ok.s8, h2 ▸ ok.w1, h2 ▸ ok.w4, by omega, by omega⟩
  have := ih ok2 (by omega)
  refine ⟨this.1, ?_⟩
  have h5 := this.2
  show (backs (backC c p) ps).uses ≤ _
  simp only [List.length_cons]
  omega
end Go.Proofs.Ytimmobbginjkfaa
