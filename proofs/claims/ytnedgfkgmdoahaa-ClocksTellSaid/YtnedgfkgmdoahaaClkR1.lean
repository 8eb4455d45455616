/- shuntref26.May, Ahead. -/
import Derived.Test.YtnedgfkgmdoahaaClkAhead
import Derived.Test.YtnedgfkgmdoahaaClkPlain
import Derived.Test.YtnedgfkgmdoahaaSxGhost
import Derived.Test.YtnedgfkgmdoahaaClkCodeT
set_option linter.unusedSimpArgs false
set_option linter.unusedVariables false
set_option linter.unnecessarySimpa false
namespace Go.Proofs.Ytnedgfkgmdoahaa
open Go Go.Sx Go.Clk
set_option maxRecDepth 100000
theorem syCell {E : Env} {A : Option Addr} {l : List Sy} (h : RowE E A (cellsS l)) {i : Nat} (hi : i < l.length) (k : Nat) (v : Value) (hk : (at' l i).cells[k]? = some v) : CellAt E A ((i : Int).toNat * 3 + k) v := by
 have : at' l i = l[i] := by unfold at'; rw [List.getD_eq_getElem?_getD, List.getElem?_eq_getElem hi]; rfl
 rw [this] at hk
 rw [Int.toNat_natCast]
 exact h.cell (by rw [cellsS_get l hi (List.getElem?_eq_some_iff.1 hk).1]; exact hk)
theorem rowE0c {w : World} {A : Option Addr} {xs : List Value} (h : RowAt w A xs) (nt : Nat) (mk : List Nat) : RowE ⟨w, w.heap.size, [], nt, mk⟩ A xs := h.toE (by simp) nt mk
theorem refmay51 (A : Option Addr) (c : Nat) (l : List Sy) (w : World) (hA : RowAt w A (cellsS l)) (hl : l.length ≤ 1000) :
  CallsV Try.prog 51 [.slice A l.length c] w fun v w' => v = .bool (decide (okLs l)) ∧ Fresh w w' := by
 refine calls_go (keep := K51) (nt := 51) (svs := [.val (.slice A l.length c)]) Try.func51 x51 n51 (by simp) (by simp [IsL, Is]) fun R hR => ?_
 (refine Y_go 600 ?_; dsimp only [X51, numF, Nat.reduceAdd, zq9r, zq9q, Y_k, zq4u, zq8p, zq6p, YK, zq8t, zq9i, normF, zq6n, Nat.reduceBEq, zq6l, zq6k, zq6m, zq86, zq8a, zq87, zq9y, t51n5, T51n5, zq6q, zq9t, zq9v])
 refine loop_go (α := Nat) (fun i => i ≤ l.length ∧ ∀ x ∈ l.take i, okS x) (fun _ => ⟨w, w.heap.size, [], 51, []⟩)
  (fun i => { F := [(0, .val (.slice A l.length c)), (3, .val (.int .i64 i))], H := [] }) (fun i => l.length - i) (fun _ => rfl) ?start ?round
 case start =>
  intro a W rep
  exact ⟨0, ⟨Nat.zero_le _, by simp⟩, rep.le (by (simp only [setn, List.nil_append, List.cons_append, leF, leH_nil, leH_cons, leF_nil, lk, scp, scpL, scpO, resF, resH, resO, resV, resVL, nth, Nat.reduceBEq, Nat.reduceLT, decide_true, decide_false, List.length, List.length_cons, List.length_nil, Nat.reduceAdd, Bool.and_self, Bool.and_true, and_true, true_and, numF] <;> try simp)) (by (simp only [setn, List.nil_append, List.cons_append, leF, leH_nil, leH_cons, leF_nil, lk, scp, scpL, scpO, resF, resH, resO, resV, resVL, nth, Nat.reduceBEq, Nat.reduceLT, decide_true, decide_false, List.length, List.length_cons, List.length_nil, Nat.reduceAdd, Bool.and_self, Bool.and_true, and_true, true_and, numF] <;> try simp))⟩
 case round =>
  intro i hi I again
  obtain ⟨hi, hok⟩ := hi
  by_cases hlt : i < l.length
  ·have sA : A.isSome = true := hA.isSome (j := i * 3) (by rw [cellsS_len]; omega)
   have cl := fun k v hk => syCell (l := l) (rowE0c hA 51 []) hlt k v hk
   have hat : at' l i = l[i] := by unfold at'; rw [List.getD_eq_getElem?_getD, List.getElem?_eq_getElem hlt]; rfl
   have hmem : l[i] ∈ l := List.getElem_mem hlt
   have bad : ∀ s, ¬ okS (at' l i) → denAll s.H s.F [2] = some [.bool false] → RetG (cxOf Try.prog Try.f51 K51 T51 R) ⟨w, w.heap.size, [], 51, []⟩ s := fun s hn hs =>
    ret_rule r51 rfl hs fun W hW => hR _ _ ⟨by rw [decide_eq_false fun q : okLs l => hn (by rw [hat]; exact q.2 _ hmem)]; rfl, hW.fresh'⟩
   (refine Y_go 600 ?_; dsimp only [zq9y, t51n3, T51n3, zq9r, zq9q, Y_k, zq4u, zq8o, zq6n, Nat.reduceBEq, zq6l, zq6k, YK, zq8t, zq55, zq0r, zq50, zq04, zq92, zq9b, zq0i, zq9e, zq9i, normF, zq6m, zq86, zq87, zq9s, zq6h, zq8x, YC, zq9p, t51n2, T51n2, zq9t, zq58, zq06, zq0w, zq5a, zq16, Nat.add_zero, zq5c, zq1p, zq1c, List.nil_append, zq1b, zq18, zq8p, zq6q, Y_gk, zq6e, YS, zq6a, zq4v, zq6o, zq0b, zq89, zq6f, t51n0, T51n0, zq6p, zq8a, zq9x, YR, zq6c, zq9h, zq0c, zq9g, zqa1, t51n1, T51n1, zq4w, zq0e, zqa2, zq9u, popTo, zq6i, YP, t51n4, T51n4, zq9f])
   refine ⟨fun _ => ?_, fun q => absurd (of_decide_eq_false q) (by omega)⟩
   have hb : 0 ≤ (i : Int) ∧ (i : Int) < (l.length : Int) ∧ A.isSome = true := ⟨by omega, by omega, sA⟩
   have no : ∀ {p : Prop}, p → (p → ¬ okS (at' l i)) → ¬ okS (at' l i) := fun h k => k h
   refine ⟨hb, sA, _, cl 0 _ rfl, fun q => bad _ (fun k => ?_) rfl, fun q1 => ⟨hb, sA, _, cl 0 _ rfl, fun q => bad _ (fun k => ?_) rfl, fun q2 => ⟨hb, sA, _, cl 1 _ rfl, fun q => bad _ (fun k => ?_) rfl, fun q3 => ⟨hb, sA, _, cl 1 _ rfl, fun q => bad _ (fun k => ?_) rfl, fun q4 => ⟨hb, sA, _, cl 2 _ rfl, fun q => bad _ (fun k => ?_) rfl, fun q5 => ?_⟩⟩⟩⟩⟩
   iterate 5
    ·have := of_decide_eq_true q
     unfold okS at k
     omega
   refine ⟨((i + 1 : Nat) : Int), ArOk.to (by omega) (by omega) (by omega), lend_rule fun a W rep => again (i + 1) ⟨hlt, ?_⟩ (by omega) a W (rep.le (by (simp only [setn, List.nil_append, List.cons_append, leF, leH_nil, leH_cons, leF_nil, lk, scp, scpL, scpO, resF, resH, resO, resV, resVL, nth, Nat.reduceBEq, Nat.reduceLT, decide_true, decide_false, List.length, List.length_cons, List.length_nil, Nat.reduceAdd, Bool.and_self, Bool.and_true, and_true, true_and, numF] <;> try simp)) (by (simp only [setn, List.nil_append, List.cons_append, leF, leH_nil, leH_cons, leF_nil, lk, scp, scpL, scpO, resF, resH, resO, resV, resVL, nth, Nat.reduceBEq, Nat.reduceLT, decide_true, decide_false, List.length, List.length_cons, List.length_nil, Nat.reduceAdd, Bool.and_self, Bool.and_true, and_true, true_and, numF] <;> try simp)))⟩
   rw [List.take_add_one, List.getElem?_eq_getElem hlt]
   intro x hx
   rcases List.mem_append.1 hx with h | h
   ·exact hok x h
   ·simp at h
    subst h
    rw [← hat]
    have := of_decide_eq_false q1; have := of_decide_eq_false q2; have := of_decide_eq_false q3; have := of_decide_eq_false q4; have := of_decide_eq_false q5
    unfold okS; omega
  ·(refine Y_go 600 ?_; dsimp only [zq9y, t51n3, T51n3, zq9r, zq9q, Y_k, zq4u, zq8o, zq6n, Nat.reduceBEq, zq6l, zq6k, YK, zq8t, zq55, zq0r, zq50, zq04, zq92, zq9b, zq0i, zq9e, zq9i, normF, zq6m, zq86, zq87, zq9s, zq6h, zq8x, YC, zq9p, t51n2, T51n2, zq9t, zq58, zq06, zq0w, zq5a, zq16, Nat.add_zero, zq5c, zq1p, zq1c, List.nil_append, zq1b, zq18, zq8p, zq6q, Y_gk, zq6e, YS, zq6a, zq4v, zq6o, zq0b, zq89, zq6f, t51n0, T51n0, zq6p, zq8a, zq9x, YR, zq6c, zq9h, zq0c, zq9g, zqa1, t51n1, T51n1, zq4w, zq0e, zqa2, zq9u, popTo, zq6i, YP, t51n4, T51n4, zq9f])
   refine ⟨fun q => absurd (of_decide_eq_true q) (by omega), fun _ => ?_⟩
   rw [List.take_of_length_le (by omega)] at hok
   refine ret_rule (vs := [.bool (decide ((l.length : Int) ≤ 400))]) r51 rfl rfl fun W hW => hR _ _ ⟨?_, hW.fresh'⟩
   show Value.bool _ = Value.bool _
   congr 1
   rw [decide_eq_decide]
   unfold okLs
   exact ⟨fun h => ⟨by omega, hok⟩, fun h => by have := h.1; omega⟩
end Go.Proofs.Ytnedgfkgmdoahaa
