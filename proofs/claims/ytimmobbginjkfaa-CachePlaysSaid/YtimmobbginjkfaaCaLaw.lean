/- The plain law of CacheBack. -/
import Derived.Test.YtimmobbginjkfaaCaW10
import Derived.Test.YtimmobbginjkfaaCaW9
import Derived.Test.YtimmobbginjkfaaCaInv
set_option linter.unusedSimpArgs false
set_option linter.unusedVariables false
set_option linter.unnecessarySimpa false
namespace Go.Proofs.Ytimmobbginjkfaa
open Go Go.Sx Go.Ca
def backC (c : Ca) (p : Int × Int) : Ca := if p.1 < 0 then c else if inE c (quo8 p.1) 2 = 0 then wordC (putC (markC c (quo8 p.1) true) p.1 p.2) p.1 else markC c (quo8 p.1) true
theorem atTo_congr {c c' : Ca} (hs : c'.sets = c.sets) (hw : c'.ways = c.ways) (h : ∀ j, (c'.sl j).line = (c.sl j).line ∧ (c'.sl j).st = (c.sl j).st) (line : Int) : ∀ i, atTo c' line i = atTo c line i
 | 0 => rfl
 | i + 1 => by
  have hf := from_of hs hw line
  have hh : hitB line (c'.sl (c.from line + i)) = hitB line (c.sl (c.from line + i)) := by
   unfold hitB; rw [(h _).1, (h _).2]
  simp only [atTo]
  rw [atTo_congr hs hw h line i, hf, hh]
theorem inC_congr {c c' : Ca} (hs : c'.sets = c.sets) (hw : c'.ways = c.ways) (h : ∀ j, (c'.sl j).line = (c.sl j).line ∧ (c'.sl j).st = (c.sl j).st) (line st : Int) : inC c' line st = inC c line st := by
 have : atC c' line = atC c line := by
  unfold atC; rw [hw, atTo_congr hs hw h line c.ways]
 unfold inC
 rw [this]
 split
 ·rename_i j _; rw [(h j).2]
 ·rfl
theorem upd_ls {f : Nat → En} {i : Nat} {e : En} (h : e.line = (f i).line ∧ e.st = (f i).st) (j : Nat) : (upd f i e j).line = (f j).line ∧ (upd f i e j).st = (f j).st := by
 by_cases hj : j = i
 ·subst hj; rw [upd_at]; exact h
 ·rw [upd_ne _ _ hj]; exact ⟨rfl, rfl⟩
theorem inE_zero {c : Ca} {line st : Int} (h : inE c line st = 0) : ∃ j, inC c line st = some j := by
 unfold inE at h
 split at h
 ·rename_i j hj; exact ⟨j, hj⟩
 ·cases h
theorem mark_ls (c : Ca) (q : Int) (k : Nat) : ((markC c q true).sl k).line = (c.sl k).line ∧ ((markC c q true).sl k).st = (c.sl k).st := by
 simp only [markC, if_true]
 split
 ·rename_i j _
  split
  ·exact ⟨rfl, rfl⟩
  ·exact upd_ls (f := c.sl) (i := j) (e := { c.sl j with wr := true, o := (c.sl j).d }) ⟨rfl, rfl⟩ k
 ·exact ⟨rfl, rfl⟩
theorem mark_in (c : Ca) (q s : Int) : inC (markC c q true) q s = inC c q s := inC_congr (mark_like c q true).s (mark_like c q true).w (mark_ls c q) q s
theorem mark_wr {c : Ca} {q : Int} {j : Nat} (h : inC c q 2 = some j) : ((markC c q true).sl j).wr = true := by
 simp only [markC, if_true, h]
 split
 ·assumption
 ·show (upd c.sl j _ j).wr = true
  rw [upd_at]
theorem put_eq {c : Ca} {a u : Int} (ha : ¬ a < 0) {j : Nat} (h : inC c (quo8 a) 2 = some j) : putC c a u = { c with uses := c.uses + 1, sl := upd c.sl j { c.sl j with used := c.uses + 1, d := putD (c.sl j).d (a % 8).toNat u } } := by
 unfold putC
 rw [if_neg ha, h]
 have e : (useC c j).sl j = { c.sl j with used := c.uses + 1 } := upd_at _ _ _
 simp only [e]
 have e2 : ∀ x, Go.Ca.upd (useC c j).sl j x = Go.Ca.upd c.sl j x := fun x => upd_upd _ _ _ _
 rw [e2]
 rfl
structure BackR (c c' : Ca) : Prop where
 s : c'.sets = c.sets
 w : c'.ways = c.ways
 l : ∀ (j : Nat), (c'.sl j).line = (c.sl j).line ∧ (c'.sl j).st = (c.sl j).st
 h : ∀ (j : Nat), j < c.n → (c.sl j).st ≠ 0 → (c'.sl j).rd = (c.sl j).rd ∧ (((c'.sl j).wr = false ∧ (c'.sl j).d = (c.sl j).d) ∨ ((c'.sl j).wr = true ∧ (c'.sl j).o = (c.sl j).d))
theorem BackR.use {c c' : Ca} (r : BackR c c') (j : Nat) : BackR c (useC c' j) := ⟨r.s, r.w, fun k => by
 have := upd_ls (f := c'.sl) (i := j) (e := { c'.sl j with used := c'.uses + 1 }) ⟨rfl, rfl⟩ k
 have h := r.l k
 show (upd c'.sl j _ k).line = _ ∧ (upd c'.sl j _ k).st = _
 rw [this.1, this.2]; exact h, fun k hk hs => by
 have h := r.h k hk hs
 show (upd c'.sl j _ k).rd = _ ∧ (((upd c'.sl j _ k).wr = _ ∧ (upd c'.sl j _ k).d = _) ∨ ((upd c'.sl j _ k).wr = _ ∧ (upd c'.sl j _ k).o = _))
 by_cases e : k = j
 ·subst e; rw [upd_at]; exact h
 ·rw [upd_ne _ _ e]; exact h⟩
theorem BackR.mark {c c' : Ca} (r : BackR c c') (q : Int) : BackR c (markC c' q true) := ⟨(mark_like c' q true).s.trans r.s, (mark_like c' q true).w.trans r.w, fun k => by
 have := mark_ls c' q k
 rw [this.1, this.2]; exact r.l k, fun k hk hs => by
 have h := r.h k hk hs
 simp only [markC, if_true]
 split
 ·rename_i j hj
  split
  ·exact h
  ·rename_i hw
   have hw : (c'.sl j).wr = false := by simpa using hw
   show (upd c'.sl j _ k).rd = _ ∧ (((upd c'.sl j _ k).wr = _ ∧ (upd c'.sl j _ k).d = _) ∨ ((upd c'.sl j _ k).wr = _ ∧ (upd c'.sl j _ k).o = _))
   by_cases e : k = j
   ·subst e; rw [upd_at]
    refine ⟨h.1, .inr ⟨rfl, ?_⟩⟩
    rcases h.2 with h2 | h2
    ·exact h2.2
    ·rw [hw] at h2; cases h2.1
   ·rw [upd_ne _ _ e]; exact h
 ·exact h⟩
theorem BackR.put {c c' : Ca} (r : BackR c c') {a u : Int} (ha : ¬ a < 0) {j : Nat} (hj : inC c' (quo8 a) 2 = some j) (hw : (c'.sl j).wr = true) : BackR c (putC c' a u) := by
 rw [put_eq ha hj]
 refine ⟨r.s, r.w, fun k => ?_, fun k hk hs => ?_⟩
 ·have := upd_ls (f := c'.sl) (i := j) (e := { c'.sl j with used := c'.uses + 1, d := putD (c'.sl j).d (a % 8).toNat u }) ⟨rfl, rfl⟩ k
  show (upd c'.sl j _ k).line = _ ∧ (upd c'.sl j _ k).st = _
  rw [this.1, this.2]; exact r.l k
 ·have h := r.h k hk hs
  show (upd c'.sl j _ k).rd = _ ∧ (((upd c'.sl j _ k).wr = _ ∧ (upd c'.sl j _ k).d = _) ∨ ((upd c'.sl j _ k).wr = _ ∧ (upd c'.sl j _ k).o = _))
  by_cases e : k = j
  ·subst e; rw [upd_at]
   refine ⟨h.1, .inr ⟨hw, ?_⟩⟩
   rcases h.2 with h2 | h2
   ·rw [hw] at h2; cases h2.1
   ·exact h2.2
  ·rw [upd_ne _ _ e]; exact h
theorem BackR.word {c c' : Ca} (r : BackR c c') (a : Int) : BackR c (wordC c' a) := by
 unfold wordC
 split
 ·exact r
 ·split
  ·exact r.use _
  ·exact r
theorem BackR.back {c c' : Ca} (r : BackR c c') (p : Int × Int) : BackR c (backC c' p) := by
 unfold backC
 split
 ·exact r
 ·rename_i ha
  split
  ·rename_i h
   obtain ⟨j, hj⟩ := inE_zero h
   exact ((r.mark _).put ha (by rw [mark_in]; exact hj) (mark_wr hj)).word _
  ·exact r.mark _
end Go.Proofs.Ytimmobbginjkfaa
