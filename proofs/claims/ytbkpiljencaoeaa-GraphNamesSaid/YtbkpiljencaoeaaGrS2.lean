/- slices.Concat at numbers. -/
import Derived.Test.YtbkpiljencaoeaaGrGrow
import Derived.Test.YtbkpiljencaoeaaGrB1
import Derived.Test.YtbkpiljencaoeaaGrCode
set_option linter.unusedSimpArgs false
set_option linter.unusedVariables false
set_option linter.unnecessarySimpa false
namespace Go.Proofs.Ytbkpiljencaoeaa
open Go Go.Sx Go.Gr
set_option maxRecDepth 100000
def slV (p : List Int × NHd) : Value := .slice p.2.A p.1.length p.2.c
def sumL (L : List (List Int × NHd)) : Nat := (L.map fun p => p.1.length).sum
theorem sumL_snoc (L : List (List Int × NHd)) (p : List Int × NHd) : sumL (L ++ [p]) = sumL L + p.1.length := by simp [sumL]
theorem sumL_take (L : List (List Int × NHd)) (i : Nat) : sumL (L.take i) ≤ sumL L := by
 have : sumL L = sumL (L.take i) + sumL (L.drop i) := by
  unfold sumL
  rw [← List.sum_append, ← List.map_append, List.take_append_drop]
 omega
def catL (L : List (List Int × NHd)) : List Int := L.flatMap (·.1)
theorem catL_len (L : List (List Int × NHd)) : (catL L).length = sumL L := by simp [catL, sumL, List.length_flatMap]
theorem concat29 (S : Option Addr) (sc : Nat) (L : List (List Int × NHd)) (w : World) (hS : RowAt w S (L.map slV)) (hL : ∀ p ∈ L, RowAt w p.2.A (isV p.1)) (h0 : 0 < sumL L) (hs : sumL L ≤ 100000) (hn : L.length ≤ 1000) :
  CallsV Try.prog 29 [.slice S L.length sc] w fun v w' => World.ownsB w' w.heap.size 3 1 v (catL L).length (isV (catL L)) ∧ Fresh w w' := by
 refine calls_go (keep := K29) (nt := 36) (svs := [.val (.slice S L.length sc)]) Try.func29 x29 n29 (by simp) (by simp [IsL, Is]) fun R hR => ?_
 have at1 : ∀ i, (h : i < L.length) → CellAt ⟨w, w.heap.size, [], 36, []⟩ S i (slV L[i]) := fun i h => (hS.toE (st := []) (by simp) 36 []).cell (by rw [List.getElem?_map, List.getElem?_eq_getElem h]; rfl)
 have sS : 0 < L.length → S.isSome = true := fun h => hS.isSome (j := 0) (by rw [List.length_map]; exact h)
 have lp : ∀ p ∈ L, p.1.length ≤ 100000 := fun p hp => by
  have : p.1.length ≤ sumL L := by
   obtain ⟨i, hi⟩ := List.getElem?_of_mem hp
   have h1 := sumL_take L (i + 1)
   rw [List.take_add_one, hi] at h1
   have h2 := sumL_snoc (L.take i) p
   simp only [Option.toList_some] at h1
   omega
  omega
 (refine Y_go 600 ?_; dsimp only [X29, numF, Nat.reduceAdd, zq9r, zq9q, Y_k, zq4u, zq8p, zq6u, YK, zq8t, zq9i, normF, zq6n, Nat.reduceBEq, zq6l, zq6k, zq6m, zq86, zq87, zq9y, t29n14, T29n14, zq6q, t29n13, T29n13, zq8o, zq55, zq0r, zq9t, zq9v])
 refine loop_go (α := Nat) (fun i => i ≤ L.length) (fun _ => ⟨w, w.heap.size, [], 36, []⟩)
  (fun i => { F := [(0, .val (.slice S L.length sc)), (3, .val (.int .i64 (sumL (L.take i)))), (9, .val (.slice S L.length sc)), (10, .val (.int .i64 L.length)), (11, .val (.int .i64 i))], H := [] }) (fun i => L.length - i) (fun _ => rfl) ?start ?round
 case start =>
  intro a W rep
  exact ⟨0, Nat.zero_le _, rep.le (by (simp only [setn, List.nil_append, List.cons_append, leF, leH_nil, leH_cons, leF_nil, lk, scp, scpL, scpO, resF, resH, resO, resV, resVL, nth, Nat.reduceBEq, Nat.reduceLT, decide_true, decide_false, List.length, List.length_cons, List.length_nil, Nat.reduceAdd, Bool.and_self, Bool.and_true, and_true, true_and, numF] <;> try simp); rfl) (by (simp only [setn, List.nil_append, List.cons_append, leF, leH_nil, leH_cons, leF_nil, lk, scp, scpL, scpO, resF, resH, resO, resV, resVL, nth, Nat.reduceBEq, Nat.reduceLT, decide_true, decide_false, List.length, List.length_cons, List.length_nil, Nat.reduceAdd, Bool.and_self, Bool.and_true, and_true, true_and, numF] <;> try simp))⟩
 case round =>
  rintro i hi I again
  (refine Y_go 600 ?_; dsimp only [zq9y, t29n5, T29n5, zq9r, zq9q, Y_k, zq50, zq8o, zq6n, Nat.reduceBEq, zq6l, zq6k, zq04, zq92, zq9b, zq0i, zq9e, YK, zq8t, zq9i, normF, zq6m, zq86, zq87, t29n4, T29n4, zq9s, zq6h, zq8x, YC, zq9p, t29n3, T29n3, zq9t, zq58, zq06, zq0w, zq5c, zq1p, zq1g, List.nil_append, zq1b, zq18, zq4u, zq89, t29n2, T29n2, zq55, zq0r, zq4w, zq0e, t29n1, T29n1, zq8p, zq6q, t29n0, T29n0, zqa1, zq8a, zqa2, zq9u, popTo, zq6i, YP, t29n12, T29n12, zq9j])
  refine ⟨fun hlt => ?_, fun hge => ?_⟩
  ·have hlt : i < L.length := by have := of_decide_eq_true hlt; omega
   have hc := at1 i hlt
   have htk : L.take (i + 1) = L.take i ++ [L[i]] := by rw [List.take_add_one, List.getElem?_eq_getElem hlt]; rfl
   have hm := List.getElem_mem hlt
   generalize L[i] = p at hc htk hm
   obtain ⟨xs, d⟩ := p
   have hsn := sumL_snoc (L.take i) (xs, d)
   have hst := sumL_take L (i + 1)
   rw [htk] at hst
   have hst0 := sumL_take L i
   simp only at hsn
   refine ⟨⟨by omega, by omega, sS (by omega)⟩, d.A, xs.length, d.c, by rw [Int.toNat_natCast, Nat.mul_one]; exact hc, ?_⟩
   refine ⟨((sumL (L.take (i + 1)) : Nat) : Int), by rw [htk, hsn]; exact ArOk.to (by omega) (by omega) (by omega), fun h => absurd (of_decide_eq_true h) (by omega), fun _ => ⟨((i + 1 : Nat) : Int), ArOk.to (by omega) (by omega) (by omega), lend_rule fun a W rep => again (i + 1) hlt (by omega) a W (rep.le (by (simp only [setn, List.nil_append, List.cons_append, leF, leH_nil, leH_cons, leF_nil, lk, scp, scpL, scpO, resF, resH, resO, resV, resVL, nth, Nat.reduceBEq, Nat.reduceLT, decide_true, decide_false, List.length, List.length_cons, List.length_nil, Nat.reduceAdd, Bool.and_self, Bool.and_true, and_true, true_and, numF] <;> try simp)) (by (simp only [setn, List.nil_append, List.cons_append, leF, leH_nil, leH_cons, leF_nil, lk, scp, scpL, scpO, resF, resH, resO, resV, resVL, nth, Nat.reduceBEq, Nat.reduceLT, decide_true, decide_false, List.length, List.length_cons, List.length_nil, Nat.reduceAdd, Bool.and_self, Bool.and_true, and_true, true_and, numF] <;> try simp)))⟩⟩
  ·have hie : i = L.length := by have := of_decide_eq_false hge; omega
   subst hie
   rw [List.take_of_length_le (Nat.le_refl _)]
   refine call_own (vs := [.slice none 0 0, .int .i64 (sumL L)]) rfl (t := 3) (sz := 1) (n := 0) (xs := []) (fun W hW => grow48 (sumL L) W h0 (by omega)) fun A1 c1 => ?_
   dsimp only [List.length_nil, zq8t, List.nil_append]
   (refine Y_go 600 ?_; dsimp only [Y_k, zq4u, zq8o, zq6n, Nat.reduceBEq, zq6k, YK, zq8t, zq9i, normF, zq6l, zq6m, zq86, zq8a, zq87, zq8f, zq9y, t29n11, T29n11, zq9r, zq9q, zq55, zq0r, zq8p, zq6q, zq9t, zq9v])
   refine loop_go (α := Nat × Option Addr × Nat) (fun q => q.1 ≤ L.length) (fun _ => ⟨w, w.heap.size, [], 36, []⟩)
    (fun q => { F := [(6, .own 0 0), (25, .val (.slice S L.length sc)), (26, .val (.int .i64 L.length)), (27, .val (.int .i64 q.1))], H := [.own 3 0 1 q.2.1 (catL (L.take q.1)).length q.2.2 (isV (catL (L.take q.1)))] }) (fun q => L.length - q.1) (fun _ => rfl) ?start2 ?round2
   case start2 =>
    intro a W rep
    exact ⟨(0, A1, c1), Nat.zero_le _, rep.le (by (simp only [setn, List.nil_append, List.cons_append, leF, leH_nil, leH_cons, leF_nil, lk, scp, scpL, scpO, resF, resH, resO, resV, resVL, nth, Nat.reduceBEq, Nat.reduceLT, decide_true, decide_false, List.length, List.length_cons, List.length_nil, Nat.reduceAdd, Bool.and_self, Bool.and_true, and_true, true_and, numF] <;> try simp)) (by (simp only [setn, List.nil_append, List.cons_append, leF, leH_nil, leH_cons, leF_nil, lk, scp, scpL, scpO, resF, resH, resO, resV, resVL, nth, Nat.reduceBEq, Nat.reduceLT, decide_true, decide_false, List.length, List.length_cons, List.length_nil, Nat.reduceAdd, Bool.and_self, Bool.and_true, and_true, true_and, numF] <;> try simp); exact ⟨rfl, rfl⟩)⟩
   case round2 =>
    rintro ⟨i, B, bc⟩ hi I2 again2
    simp only at hi ⊢
    (refine Y_go 600 ?_; dsimp only [zq9y, t29n9, T29n9, zq9r, zq9q, Y_k, zq50, zq8o, zq6n, Nat.reduceBEq, zq6l, zq6k, zq04, zq92, zq9b, zq0i, zq9e, YK, zq8t, zq9i, normF, zq6m, zq87, zq86, zq8f, t29n8, T29n8, zq9s, zq6h, zq8x, YC, zq9p, t29n7, T29n7, zq9t, zq58, zq06, zq0w, zq5c, zq1p, zq1g, List.nil_append, zq1b, zq18, zq4u, zq89, t29n6, T29n6, zq5l, zq2w, nth, zq09, zq08, zq2s, zq2r, zq2o, zq2h, Nat.reduceAdd, setn, zqa1, zq4w, zq8p, zq6q, zq0e, zqa2, zq9u, popTo, zq6i, YP, t29n10, T29n10, zq8a, zq9x])
    refine ⟨fun hlt => ?_, fun hge => ?_⟩
    ·have hlt : i < L.length := by have := of_decide_eq_true hlt; omega
     have hc := at1 i hlt
     have htk : L.take (i + 1) = L.take i ++ [L[i]] := by rw [List.take_add_one, List.getElem?_eq_getElem hlt]; rfl
     have hm := List.getElem_mem hlt
     generalize L[i] = p at hc htk hm
     have hr := hL p hm
     have hp := lp p hm
     obtain ⟨xs, d⟩ := p
     simp only at hr hp
     have hst0 := sumL_take L i
     rw [← catL_len] at hst0
     have hrd := hr.rd (nt := 36) (isV_one xs)
     rw [isV_len, ← Nat.mul_one xs.length] at hrd
     have e1 : catL (L.take (i + 1)) = catL (L.take i) ++ xs := by rw [htk]; simp [catL]
     refine ⟨⟨by omega, by omega, sS (by omega)⟩, d.A, xs.length, d.c, by rw [Int.toNat_natCast, Nat.mul_one]; exact hc, _, hrd, ⟨by simp only [maxLen]; omega, by omega⟩, fun B2 bc2 => ⟨((i + 1 : Nat) : Int), ArOk.to (by omega) (by omega) (by omega), lend_rule fun a W rep => again2 (i + 1, B2, bc2) hlt (by simp only; omega) a W ?_⟩⟩
     have e2 : isV (catL (L.take i) ++ xs) = isV (catL (L.take i)) ++ isV xs := by simp [isV]
     simp only [e1, e2, List.length_append]
     exact rep.res.le (by (simp only [setn, List.nil_append, List.cons_append, leF, leH_nil, leH_cons, leF_nil, lk, scp, scpL, scpO, resF, resH, resO, resV, resVL, nth, Nat.reduceBEq, Nat.reduceLT, decide_true, decide_false, List.length, List.length_cons, List.length_nil, Nat.reduceAdd, Bool.and_self, Bool.and_true, and_true, true_and, numF] <;> try simp)) (by (simp only [setn, List.nil_append, List.cons_append, leF, leH_nil, leH_cons, leF_nil, lk, scp, scpL, scpO, resF, resH, resO, resV, resVL, nth, Nat.reduceBEq, Nat.reduceLT, decide_true, decide_false, List.length, List.length_cons, List.length_nil, Nat.reduceAdd, Bool.and_self, Bool.and_true, and_true, true_and, numF] <;> try simp))
    ·have hie : i = L.length := by have := of_decide_eq_false hge; omega
     subst hie
     rw [List.take_of_length_le (Nat.le_refl _)]
     exact ret_rule (vs := [.slice B (catL L).length bc]) r29 rfl rfl fun W hW => hR _ _ ⟨hW.owns (i := 0) rfl, hW.fresh'⟩
end Go.Proofs.Ytbkpiljencaoeaa
