/- slices.Index and slices.Min at numbers. -/
import Derived.Test.YtbkpiljencaoeaaGrB1
import Derived.Test.YtbkpiljencaoeaaGrCode
set_option linter.unusedSimpArgs false
set_option linter.unusedVariables false
set_option linter.unnecessarySimpa false
namespace Go.Proofs.Ytbkpiljencaoeaa
open Go Go.Sx Go.Gr
set_option maxRecDepth 100000
theorem index27 (A : Option Addr) (c : Nat) (l : List Int) (x : Int) (w : World) (hA : RowAt w A (isV l)) (hl : l.length ≤ 2000000) :
  CallsV Try.prog 27 [.slice A l.length c, .int .i64 x] w fun v w' => v = .int .i64 (idxI l x) ∧ Fresh w w' := by
 refine calls_go (keep := K27) (nt := 19) (svs := [.val (.slice A l.length c), .val (.int .i64 x)]) Try.func27 x27 n27 (by simp) (by simp [IsL, Is]) fun R hR => ?_
 (refine Y_go 600 ?_; dsimp only [X27, numF, Nat.reduceAdd, zq9r, zq9q, Y_k, zq4u, zq8p, zq6q, YK, zq8t, zq9i, normF, zq6n, Nat.reduceBEq, zq6l, zq6k, zq6m, zq86, zq87, zq9y, t27n6, T27n6, zq8o, zq55, zq0r, zq9t, zq9v])
 refine loop_go (α := Nat) (fun i => i ≤ l.length ∧ x ∉ l.take i) (fun _ => ⟨w, w.heap.size, [], 19, []⟩)
  (fun i => { F := [(0, .val (.slice A l.length c)), (1, .val (.int .i64 x)), (7, .val (.int .i64 l.length)), (8, .val (.int .i64 i))], H := [] }) (fun i => l.length - i) (fun _ => rfl) ?start ?round
 case start =>
  intro a W rep
  exact ⟨0, ⟨Nat.zero_le _, by simp⟩, rep.le (by (simp only [setn, List.nil_append, List.cons_append, leF, leH_nil, leH_cons, leF_nil, lk, scp, scpL, scpO, resF, resH, resO, resV, resVL, nth, Nat.reduceBEq, Nat.reduceLT, decide_true, decide_false, List.length, List.length_cons, List.length_nil, Nat.reduceAdd, Bool.and_self, Bool.and_true, and_true, true_and, numF] <;> try simp)) (by (simp only [setn, List.nil_append, List.cons_append, leF, leH_nil, leH_cons, leF_nil, lk, scp, scpL, scpO, resF, resH, resO, resV, resVL, nth, Nat.reduceBEq, Nat.reduceLT, decide_true, decide_false, List.length, List.length_cons, List.length_nil, Nat.reduceAdd, Bool.and_self, Bool.and_true, and_true, true_and, numF] <;> try simp))⟩
 case round =>
  rintro i ⟨hi, hx⟩ I again
  (refine Y_go 600 ?_; dsimp only [zq9y, t27n4, T27n4, zq9r, zq9q, Y_k, zq50, zq8o, zq6n, Nat.reduceBEq, zq6l, zq6k, zq04, zq92, zq9b, zq0i, zq9e, YK, zq8t, zq9i, normF, zq6m, zq86, zq87, t27n3, T27n3, zq9s, zq6h, zq8x, YC, zq9p, t27n2, T27n2, zq9t, zq4u, zq89, t27n1, T27n1, zq58, zq06, zq0w, zq5c, zq1p, zq1c, List.nil_append, zq1b, zq18, zq9c, t27n0, T27n0, zq9x, zqa1, zq4w, zq8p, zq6q, zq0e, zq8a, zqa2, zq9u, popTo, zq6i, YP, t27n5, T27n5])
  refine ⟨fun hlt => ?_, fun hge => ?_⟩
  ·have hlt : i < l.length := by have := of_decide_eq_true hlt; omega
   have hg : l[i]? = some l[i] := List.getElem?_eq_getElem hlt
   have htk : l.take (i + 1) = l.take i ++ [l[i]] := by rw [List.take_add_one, hg]; rfl
   have hc := (hA.toE (st := []) (by simp) 19 []).cell (isV_get l i _ hg)
   have sA : A.isSome = true := hA.isSome (j := i) (by rw [isV_len]; omega)
   generalize l[i] = y at hg htk hc
   refine ⟨⟨by omega, by omega, sA⟩, _, by rw [Int.toNat_natCast, Nat.mul_one]; exact hc, fun h => ?_, fun h => ?_⟩
   ·have h : x = y := by simpa using h
    subst h
    exact ret_rule (vs := [.int .i64 i]) r27 rfl rfl fun W hW => hR _ _ ⟨by rw [idxI_at hg hx]; rfl, hW.fresh'⟩
   ·have h : x ≠ y := by simpa using h
    refine ⟨((i + 1 : Nat) : Int), ArOk.to (by omega) (by omega) (by omega), lend_rule fun a W rep => again (i + 1) ⟨hlt, ?_⟩ (by omega) a W (rep.le (by (simp only [setn, List.nil_append, List.cons_append, leF, leH_nil, leH_cons, leF_nil, lk, scp, scpL, scpO, resF, resH, resO, resV, resVL, nth, Nat.reduceBEq, Nat.reduceLT, decide_true, decide_false, List.length, List.length_cons, List.length_nil, Nat.reduceAdd, Bool.and_self, Bool.and_true, and_true, true_and, numF] <;> try simp)) (by (simp only [setn, List.nil_append, List.cons_append, leF, leH_nil, leH_cons, leF_nil, lk, scp, scpL, scpO, resF, resH, resO, resV, resVL, nth, Nat.reduceBEq, Nat.reduceLT, decide_true, decide_false, List.length, List.length_cons, List.length_nil, Nat.reduceAdd, Bool.and_self, Bool.and_true, and_true, true_and, numF] <;> try simp)))⟩
    rw [htk]; simp [hx, h]
  ·have hie : i = l.length := by have := of_decide_eq_false hge; omega
   subst hie
   exact ret_rule (vs := [.int .i64 (-1)]) r27 rfl rfl fun W hW => hR _ _ ⟨by rw [idxI_no hx]; rfl, hW.fresh'⟩
theorem min28 (A : Option Addr) (c : Nat) (x : Int) (l : List Int) (w : World) (hA : RowAt w A (isV (x :: l))) (hl : l.length ≤ 2000000) :
  CallsV Try.prog 28 [.slice A (x :: l).length c] w fun v w' => v = .int .i64 (minI x l) ∧ Fresh w w' := by
 refine calls_go (keep := K28) (nt := 25) (svs := [.val (.slice A (x :: l).length c)]) Try.func28 x28 n28 (by simp) (by simp [IsL, Is]) fun R hR => ?_
 have hc0 := (hA.toE (st := []) (by simp) 25 []).cell (j := 0) rfl
 have sA : A.isSome = true := hA.isSome (j := 0) (by simp [isV])
 have hll : (x :: l).length = l.length + 1 := rfl
 (refine Y_go 600 ?_; dsimp only [X28, List.length_cons, numF, Nat.reduceAdd, zq9r, zq9q, Y_k, zq4u, zq8p, zq6q, YK, zq8t, zq9i, normF, zq6n, Nat.reduceBEq, zq6l, zq6k, zq6m, zq86, zq87, zq9y, t28n7, T28n7, zq8o, zq55, zq0r, zq50, zq04, zq92, zq9b, zq0i, zq9e, t28n0, T28n0, zq9s, zq6h, zq8x, YC, zq9p, t28n6, T28n6, zq58, zq06, zq0w, Int.reduceToNat, Nat.reduceMul, zq5c, zq1p, zq1c, List.nil_append, zq1b, zq18, zq8a, t28n5, T28n5, zq9t, zq9v])
 refine ⟨fun h => absurd (of_decide_eq_true h) (by omega), fun _ => ⟨⟨by omega, by omega, sA⟩, x, hc0, ?_⟩⟩
 refine loop_go (α := Nat) (fun i => i ≤ l.length) (fun _ => ⟨w, w.heap.size, [], 25, []⟩)
  (fun i => { F := [(0, .val (.slice A (x :: l).length c)), (3, .val (.int .i64 (minI x (l.take i)))), (4, .val (.int .i64 ((i + 1 : Nat) : Int)))], H := [] }) (fun i => l.length - i) (fun _ => rfl) ?start ?round
 case start =>
  intro a W rep
  exact ⟨0, Nat.zero_le _, rep.le (by (simp only [setn, List.nil_append, List.cons_append, leF, leH_nil, leH_cons, leF_nil, lk, scp, scpL, scpO, resF, resH, resO, resV, resVL, nth, Nat.reduceBEq, Nat.reduceLT, decide_true, decide_false, List.length, List.length_cons, List.length_nil, Nat.reduceAdd, Bool.and_self, Bool.and_true, and_true, true_and, numF] <;> try simp); rfl) (by (simp only [setn, List.nil_append, List.cons_append, leF, leH_nil, leH_cons, leF_nil, lk, scp, scpL, scpO, resF, resH, resO, resV, resVL, nth, Nat.reduceBEq, Nat.reduceLT, decide_true, decide_false, List.length, List.length_cons, List.length_nil, Nat.reduceAdd, Bool.and_self, Bool.and_true, and_true, true_and, numF] <;> try simp))⟩
 case round =>
  rintro i hi I again
  (refine Y_go 600 ?_; dsimp only [List.length_cons, zq9y, t28n3, T28n3, zq9r, zq9q, Y_k, zq4u, zq8o, zq6n, Nat.reduceBEq, zq6l, zq6k, YK, zq8t, zq55, zq0r, zq50, zq04, zq92, zq9b, zq0i, zq9e, zq9i, normF, zq6m, zq87, zq86, zq9s, zq6h, zq8x, YC, zq9p, t28n2, T28n2, zq9t, zq58, zq06, zq0w, zq5c, zq1p, zq1c, List.nil_append, zq1b, zq18, zq5u, zq43, zq89, zqa1, t28n1, T28n1, zq4w, zq8p, zq6q, zq0e, zqa2, zq9u, popTo, zq6i, YP, t28n4, T28n4, zq8a, zq9x])
  refine ⟨fun hlt => ?_, fun hge => ?_⟩
  ·have hlt : i < l.length := by have := of_decide_eq_true hlt; omega
   have hg : l[i]? = some l[i] := List.getElem?_eq_getElem hlt
   have htk : l.take (i + 1) = l.take i ++ [l[i]] := by rw [List.take_add_one, hg]; rfl
   have hc := (hA.toE (st := []) (by simp) 25 []).cell (j := i + 1) (isV_get (x :: l) (i + 1) l[i] hg)
   generalize l[i] = y at hg htk hc
   refine ⟨⟨by omega, by omega, sA⟩, y, by rw [Int.toNat_natCast, Nat.mul_one]; exact hc, ?_⟩
   refine ⟨((i + 1 + 1 : Nat) : Int), ArOk.to (by omega) (by omega) (by omega), lend_rule fun a W rep => again (i + 1) hlt (by omega) a W (rep.le ?_ (by (simp only [setn, List.nil_append, List.cons_append, leF, leH_nil, leH_cons, leF_nil, lk, scp, scpL, scpO, resF, resH, resO, resV, resVL, nth, Nat.reduceBEq, Nat.reduceLT, decide_true, decide_false, List.length, List.length_cons, List.length_nil, Nat.reduceAdd, Bool.and_self, Bool.and_true, and_true, true_and, numF] <;> try simp)))⟩
   rw [htk, minI_snoc]
   (simp only [setn, List.nil_append, List.cons_append, leF, leH_nil, leH_cons, leF_nil, lk, scp, scpL, scpO, resF, resH, resO, resV, resVL, nth, Nat.reduceBEq, Nat.reduceLT, decide_true, decide_false, List.length, List.length_cons, List.length_nil, Nat.reduceAdd, Bool.and_self, Bool.and_true, and_true, true_and, numF] <;> try simp)
   rfl
  ·have hie : i = l.length := by have := of_decide_eq_false hge; omega
   subst hie
   rw [List.take_of_length_le (Nat.le_refl _)]
   exact ret_rule (vs := [.int .i64 (minI x l)]) r28 rfl rfl fun W hW => hR _ _ ⟨rfl, hW.fresh'⟩
end Go.Proofs.Ytbkpiljencaoeaa
