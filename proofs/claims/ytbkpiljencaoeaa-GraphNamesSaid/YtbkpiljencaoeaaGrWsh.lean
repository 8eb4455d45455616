/- The plain law of graphs (6): who is behind whom, by rounds (as the document has it); cycles and orders that can be reckoned. No program in sight. -/
import Derived.Test.YtbkpiljencaoeaaGrOrd
set_option linter.unusedSimpArgs false
set_option linter.unusedVariables false
set_option linter.unnecessarySimpa false
namespace Go.Gr
def rgB (l : List Ed) (i j : Nat) : Bool := l.any fun e => e.1 == (i : Int) && e.2 == (j : Int)
theorem rgB_iff (l : List Ed) (i j : Nat) : rgB l i j = true ↔ ((i : Int), (j : Int)) ∈ l := by
 unfold rgB
 rw [List.any_eq_true]
 constructor
 ·rintro ⟨⟨a, b⟩, h1, h2⟩
  simp only [Bool.and_eq_true, beq_iff_eq] at h2
  rw [← h2.1, ← h2.2]; exact h1
 ·exact fun h => ⟨_, h, by simp⟩
def wst (M : Nat → Nat → Bool) (k i j : Nat) : Bool := M i j || (M i k && M k j)
def wsN (l : List Ed) : Nat → Nat → Nat → Bool
 | 0 => rgB l
 | k + 1 => wst (wsN l k) k
theorem wst_iff (M : Nat → Nat → Bool) (k i j : Nat) : wst M k i j = true ↔ M i j = true ∨ M i k = true ∧ M k j = true := by
 unfold wst; rw [Bool.or_eq_true, Bool.and_eq_true]
theorem wsN_sound (l : List Ed) : ∀ (k i j : Nat), wsN l k i j = true → Bh l i j
 | 0, i, j, h => .one ((rgB_iff l i j).1 h)
 | k + 1, i, j, h => by
  rcases (wst_iff _ _ _ _).1 h with h | ⟨h1, h2⟩
  ·exact wsN_sound l k i j h
  ·exact (wsN_sound l k i k h1).trans (wsN_sound l k k j h2)
theorem wsN_right (l : List Ed) : ∀ (k i j : Nat), rgB l i j = true → wsN l k i j = true
 | 0, i, j, h => h
 | k + 1, i, j, h => (wst_iff _ _ _ _).2 (.inl (wsN_right l k i j h))
theorem wsN_trans (l : List Ed) : ∀ (k a i j : Nat), a < k → wsN l k i a = true → wsN l k a j = true → wsN l k i j = true
 | k + 1, a, i, j, ha, h1, h2 => by
  have ih := wsN_trans l k
  refine (wst_iff _ _ _ _).2 ?_
  by_cases hk : a = k
  ·subst hk
   right
   constructor
   ·rcases (wst_iff _ _ _ _).1 h1 with h | ⟨h, _⟩ <;> exact h
   ·rcases (wst_iff _ _ _ _).1 h2 with h | ⟨_, h⟩ <;> exact h
  ·have hak : a < k := by omega
   rcases (wst_iff _ _ _ _).1 h1 with p | ⟨p1, p2⟩
   ·rcases (wst_iff _ _ _ _).1 h2 with q | ⟨q1, q2⟩
    ·exact .inl (ih a i j hak p q)
    ·exact .inr ⟨ih a i k hak p q1, q2⟩
   ·rcases (wst_iff _ _ _ _).1 h2 with q | ⟨q1, q2⟩
    ·exact .inr ⟨p1, ih a k j hak p2 q⟩
    ·exact .inr ⟨p1, q2⟩
theorem wsN_bh {n : Nat} {l : List Ed} (ok : okG n l) (i j : Nat) : bhB l i j = wsN l n i j := by
 rw [Bool.eq_iff_iff, bhB_iff]
 refine ⟨fun h => ?_, wsN_sound l n i j⟩
 have all : ∀ m : Int, Bh l i m → wsN l n i m.toNat = true := by
  intro m hm
  induction hm with
  | @one k e =>
   have := ok.2.2.2 _ e
   refine wsN_right l n _ _ ((rgB_iff l i _).2 ?_)
   rw [Int.toNat_of_nonneg this.2.2.1]; exact e
  | @step k m hb e ih =>
   have h1 := hb.lt ok
   have h2 := ok.2.2.2 _ e
   refine wsN_trans l n k.toNat i _ (by omega) ih (wsN_right l n _ _ ((rgB_iff l _ _).2 ?_))
   rw [Int.toNat_of_nonneg h1.1, Int.toNat_of_nonneg h2.2.2.1]; exact e
 have := all _ h
 rwa [Int.toNat_natCast] at this
def nxB (l : List Ed) (n k : Nat) : List Int := ((List.range n).filter fun i => rgB l k i).map fun i => ((i : Nat) : Int)
theorem nxB_eq {n : Nat} {l : List Ed} (ok : okG n l) (k : Nat) : nxU l k = nxB l n k := by
 refine up_ext (upI_up _) ?_ fun x => ?_
 ·unfold nxB
  rw [List.pairwise_map]
  have := (List.pairwise_lt_range (n := n)).filter fun i => rgB l k i
  exact this.imp fun h => by omega
 ·rw [nxU_mem l k x]
  unfold nxB
  simp only [List.mem_map, List.mem_filter, List.mem_range, rgB_iff]
  constructor
  ·intro h
   have := ok.2.2.2 _ h
   refine ⟨x.toNat, ⟨by omega, ?_⟩, by omega⟩
   rw [Int.toNat_of_nonneg this.2.2.1]; exact h
  ·rintro ⟨i, ⟨_, h⟩, rfl⟩; exact h
def stepB (l : List Ed) (n k : Nat) : Nat := ((List.range n).find? fun i => rgB l k i && wsN l n i k).getD k
theorem stepB_eq {n : Nat} {l : List Ed} (ok : okG n l) (k : Nat) : stepC l k = stepB l n k := by
 unfold stepC stepB
 rw [nxB_eq ok]
 unfold nxB
 rw [List.find?_map, List.find?_filter]
 have e : (fun a => decide (rgB l k a = true ∧ ((fun t : Int => bhB l t.toNat k) ∘ fun i : Nat => (i : Int)) a = true)) = fun i => rgB l k i && wsN l n i k := by
  funext a
  rw [Bool.eq_iff_iff]
  simp only [Function.comp, Int.toNat_natCast, wsN_bh ok, decide_eq_true_eq, Bool.and_eq_true]
 rw [e]
 cases (List.range n).find? fun i => rgB l k i && wsN l n i k with
 | none => rfl
 | some i => simp
def walkB (l : List Ed) (n : Nat) : Nat → List Int → Nat → List Int
 | 0, w, _ => w
 | f + 1, w, k => if (k : Int) ∈ w then w.drop (w.idxOf (k : Int)) else walkB l n f (w ++ [(k : Int)]) (stepB l n k)
theorem walkB_eq {n : Nat} {l : List Ed} (ok : okG n l) : ∀ (f : Nat) (w : List Int) (k : Nat), walkC l f w k = walkB l n f w k
 | 0, w, k => rfl
 | f + 1, w, k => by rw [walkC, walkB, stepB_eq ok, walkB_eq ok f]
def selfB (l : List Ed) (n : Nat) : Nat := (List.range n).findIdx fun i => wsN l n i i
def cycB (l : List Ed) (n : Nat) : List Int := if selfB l n = n then [] else rotL (walkB l n (n + 1) [] (selfB l n))
theorem cycB_eq {n : Nat} {l : List Ed} (ok : okG n l) : cycL l n = cycB l n := by
 have e : selfN l n = selfB l n := by
  unfold selfN selfB
  congr 1; funext i; exact wsN_bh ok i i
 unfold cycL cycB
 rw [e, walkB_eq ok]
def freeB (l : List Ed) (u : List Int) (i : Nat) : Bool := !u.contains (i : Int) && l.all fun e => e.2 != (i : Int) || u.contains e.1
theorem freeB_iff (l : List Ed) (u : List Int) (i : Nat) : (ahU l u i == 0) = freeB l u i := by
 rw [Bool.eq_iff_iff, beq_iff_eq, ahU_zero]
 unfold freeB
 rw [Bool.and_eq_true, List.all_eq_true]
 refine and_congr (by simp) ⟨fun h e he => ?_, fun h k hk => ?_⟩
 ·rw [Bool.or_eq_true]
  by_cases q : e.2 = (i : Int)
  ·right
   rw [List.contains_iff_mem]
   exact h e.1 (by rw [← q]; exact he)
  ·left; simpa using q
 ·have := h _ hk
  simpa using this
def pickB (l : List Ed) (n : Nat) (u : List Int) : Nat := (List.range n).findIdx (freeB l u)
theorem pickB_eq (l : List Ed) (n : Nat) (u : List Int) : pickN l n u = pickB l n u := by
 unfold pickN pickB
 congr 1; funext i; exact freeB_iff l u i
def grdB (l : List Ed) (n : Nat) : Nat → List Int → List Int
 | 0, u => u
 | f + 1, u => if pickB l n u < n then grdB l n f (u ++ [(pickB l n u : Int)]) else u
theorem grdB_eq (l : List Ed) (n : Nat) : ∀ f u, grd l n f u = grdB l n f u
 | 0, u => rfl
 | f + 1, u => by rw [grd, grdB, pickB_eq, grdB_eq l n f]
theorem ordB_eq (l : List Ed) (n : Nat) : ordL l n = grdB l n (n + 1) [] := grdB_eq l n _ _
theorem alive_ord : ordL [(3, 1), (1, 0)] 4 = [2, 3, 1, 0] := by
 rw [ordB_eq]; decide
theorem alive_cyc : cycL [(0, 2), (2, 3), (3, 2), (3, 0)] 4 = [0, 2, 3] := by
 rw [cycB_eq (by decide)]; decide
end Go.Gr
