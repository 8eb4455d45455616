/- slices.Index and slices.Min at numbers. -/
import Derived.Test.YtbkpiljencaoeaaGrB1
import Derived.Test.YtbkpiljencaoeaaGrCode
import Derived.Shelf.Spec.SlicesGrow
import Derived.Test.YtbkpiljencaoeaaProg
import Derived.Test.YtbkpiljencaoeaaGrCmp
import Derived.KernelRfl
set_option linter.unusedSimpArgs false
set_option linter.unusedVariables false
set_option linter.unnecessarySimpa false
namespace Go.Proofs.Ytbkpiljencaoeaa
open Go Go.Sx Go.Gr
set_option maxRecDepth 100000
theorem index27 (A : Option Addr) (c : Nat) (l : List Int) (x : Int) (w : World) (hA : RowAt w A (isV l)) (hl : l.length ≤ 2000000) :
  CallsV Try.prog 27 [.slice A l.length c, .int .i64 x] w fun v w' => v = .int .i64 (idxI l x) ∧ Fresh w w' := by
 refine calls_go (keep := K27) (nt := 19) (svs := [.val (.slice A l.length c), .val (.int .i64 x)]) Try.func27 x27 n27 (by simp) (by simp [IsL, Is]) fun R hR => ?_
 (refine Y_go 600 ?_; dsimp only [X27, numF, Nat.reduceAdd, zq9r, zq9q, Y_k, zq4u, zq8p, zq6q, YK, zq8t, zq9i, normF, zq6n, Nat.reduceBEq, zq6l, zq6k, zq6m, zq86, zq87, zq9y, t27n6, T27n6, zq8o, zq55, zq0r, zq9t, zq9v])
 refine loop_go (α := Nat) (fun i => i ≤ l.length ∧ x ∉ l.take i) (fun _ => ⟨w, w.heap.size, [], 19, []⟩)
  (fun i => { F := [(0, .val (.slice A l.length c)), (1, .val (.int .i64 x)), (7, .val (.int .i64 l.length)), (8, .val (.int .i64 i))], H := [] }) (fun i => l.length - i) (fun _ => rfl) ?start ?round
 case start =>
  intro a W rep
  exact ⟨0, ⟨Nat.zero_le _, by simp⟩, rep.le (by (simp only [setn, List.nil_append, List.cons_append, leF, leH_nil, leH_cons, leF_nil, lk, scp, scpL, scpO, resF, resH, resO, resV, resVL, nth, Nat.reduceBEq, Nat.reduceLT, decide_true, decide_false, List.length, List.length_cons, List.length_nil, Nat.reduceAdd, Bool.and_self, Bool.and_true, and_true, true_and, numF] <;> try simp)) (by (simp only [setn, List.nil_append, List.cons_append, leF, leH_nil, leH_cons, leF_nil, lk, scp, scpL, scpO, resF, resH, resO, resV, resVL, nth, Nat.reduceBEq, Nat.reduceLT, decide_true, decide_false, List.length, List.length_cons, List.length_nil, Nat.reduceAdd, Bool.and_self, Bool.and_true, and_true, true_and, numF] <;> try simp))⟩
 case round =>
  rintro i ⟨hi, hx⟩ I again
  (refine Y_go 600 ?_; dsimp only [zq9y, t27n4, T27n4, zq9r, zq9q, Y_k, zq50, zq8o, zq6n, Nat.reduceBEq, zq6l, zq6k, zq04, zq92, zq9b, zq0i, zq9e, YK, zq8t, zq9i, normF, zq6m, zq86, zq87, t27n3, T27n3, zq9s, zq6h, zq8x, YC, zq9p, t27n2, T27n2, zq9t, zq4u, zq89, t27n1, T27n1, zq58, zq06, zq0w, zq5c, zq1p, zq1c, List.nil_append, zq1b, zq18, zq9c, t27n0, T27n0, zq9x, zqa1, zq4w, zq8p, zq6q, zq0e, zq8a, zqa2, zq9u, popTo, zq6i, YP, t27n5, T27n5])
  refine ⟨fun hlt => ?_, fun hge => ?_⟩
  ·have hlt : i < l.length := by have := of_decide_eq_true hlt; omega
   have hg : l[i]? = some l[i] := List.getElem?_eq_getElem hlt
   have htk : l.take (i + 1) = l.take i ++ [l[i]] := by rw [List.take_add_one, hg]; rfl
   have hc := (hA.toE (st := []) (by simp) 19 []).cell (isV_get l i _ hg)
   have sA : A.isSome = true := hA.isSome (j := i) (by rw [isV_len]; omega)
   generalize l[i] = y at hg htk hc
   refine ⟨⟨by omega, by omega, sA⟩, _, by rw [Int.toNat_natCast, Nat.mul_one]; exact hc, fun h => ?_, fun h => ?_⟩
   ·have h : x = y := by simpa using h
    subst h
    exact ret_rule (vs := [.int .i64 i]) r27 rfl rfl fun W hW => hR _ _ ⟨by rw [idxI_at hg hx]; rfl, hW.fresh'⟩
   ·have h : x ≠ y := by simpa using h
    refine ⟨((i + 1 : Nat) : Int), ArOk.to (by omega) (by omega) (by omega), lend_rule fun a W rep => again (i + 1) ⟨hlt, ?_⟩ (by omega) a W (rep.le (by (simp only [setn, List.nil_append, List.cons_append, leF, leH_nil, leH_cons, leF_nil, lk, scp, scpL, scpO, resF, resH, resO, resV, resVL, nth, Nat.reduceBEq, Nat.reduceLT, decide_true, decide_false, List.length, List.length_cons, List.length_nil, Nat.reduceAdd, Bool.and_self, Bool.and_true, and_true, true_and, numF] <;> try simp)) (by (simp only [setn, List.nil_append, List.cons_append, leF, leH_nil, leH_cons, leF_nil, lk, scp, scpL, scpO, resF, resH, resO, resV, resVL, nth, Nat.reduceBEq, Nat.reduceLT, decide_true, decide_false, List.length, List.length_cons, List.length_nil, Nat.reduceAdd, Bool.and_self, Bool.and_true, and_true, true_and, numF] <;> try simp)))⟩
    rw [htk]; simp [hx, h]
  ·have hie : i = l.length := by have := of_decide_eq_false hge; omega
   subst hie
   exact ret_rule (vs := [.int .i64 (-1)]) r27 rfl rfl fun W hW => hR _ _ ⟨by rw [idxI_no hx]; rfl, hW.fresh'⟩
theorem min28 (A : Option Addr) (c : Nat) (x : Int) (l : List Int) (w : World) (hA : RowAt w A (isV (x :: l))) (hl : l.length ≤ 2000000) :
  CallsV Try.prog 28 [.slice A (x :: l).length c] w fun v w' => v = .int .i64 (minI x l) ∧ Fresh w w' := by
 refine calls_go (keep := K28) (nt := 25) (svs := [.val (.slice A (x :: l).length c)]) Try.func28 x28 n28 (by simp) (by simp [IsL, Is]) fun R hR => ?_
 have hc0 := (hA.toE (st := []) (by simp) 25 []).cell (j := 0) rfl
 have sA : A.isSome = true := hA.isSome (j := 0) (by simp [isV])
 have hll : (x :: l).length = l.length + 1 := rfl
 (refine Y_go 600 ?_; dsimp only [X28, List.length_cons, numF, Nat.reduceAdd, zq9r, zq9q, Y_k, zq4u, zq8p, zq6q, YK, zq8t, zq9i, normF, zq6n, Nat.reduceBEq, zq6l, zq6k, zq6m, zq86, zq87, zq9y, t28n7, T28n7, zq8o, zq55, zq0r, zq50, zq04, zq92, zq9b, zq0i, zq9e, t28n0, T28n0, zq9s, zq6h, zq8x, YC, zq9p, t28n6, T28n6, zq58, zq06, zq0w, Int.reduceToNat, Nat.reduceMul, zq5c, zq1p, zq1c, List.nil_append, zq1b, zq18, zq8a, t28n5, T28n5, zq9t, zq9v])
 refine ⟨fun h => absurd (of_decide_eq_true h) (by omega), fun _ => ⟨⟨by omega, by omega, sA⟩, x, hc0, ?_⟩⟩
 refine loop_go (α := Nat) (fun i => i ≤ l.length) (fun _ => ⟨w, w.heap.size, [], 25, []⟩)
  (fun i => { F := [(0, .val (.slice A (x :: l).length c)), (3, .val (.int .i64 (minI x (l.take i)))), (4, .val (.int .i64 ((i + 1 : Nat) : Int)))], H := [] }) (fun i => l.length - i) (fun _ => rfl) ?start ?round
 case start =>
  intro a W rep
  exact ⟨0, Nat.zero_le _, rep.le (by (simp only [setn, List.nil_append, List.cons_append, leF, leH_nil, leH_cons, leF_nil, lk, scp, scpL, scpO, resF, resH, resO, resV, resVL, nth, Nat.reduceBEq, Nat.reduceLT, decide_true, decide_false, List.length, List.length_cons, List.length_nil, Nat.reduceAdd, Bool.and_self, Bool.and_true, and_true, true_and, numF] <;> try simp); rfl) (by (simp only [setn, List.nil_append, List.cons_append, leF, leH_nil, leH_cons, leF_nil, lk, scp, scpL, scpO, resF, resH, resO, resV, resVL, nth, Nat.reduceBEq, Nat.reduceLT, decide_true, decide_false, List.length, List.length_cons, List.length_nil, Nat.reduceAdd, Bool.and_self, Bool.and_true, and_true, true_and, numF] <;> try simp))⟩
 case round =>
  rintro i hi I again
  (refine Y_go 600 ?_; dsimp only [List.length_cons, zq9y, t28n3, T28n3, zq9r, zq9q, Y_k, zq4u, zq8o, zq6n, Nat.reduceBEq, zq6l, zq6k, YK, zq8t, zq55, zq0r, zq50, zq04, zq92, zq9b, zq0i, zq9e, zq9i, normF, zq6m, zq87, zq86, zq9s, zq6h, zq8x, YC, zq9p, t28n2, T28n2, zq9t, zq58, zq06, zq0w, zq5c, zq1p, zq1c, List.nil_append, zq1b, zq18, zq5u, zq43, zq89, zqa1, t28n1, T28n1, zq4w, zq8p, zq6q, zq0e, zqa2, zq9u, popTo, zq6i, YP, t28n4, T28n4, zq8a, zq9x])
  refine ⟨fun hlt => ?_, fun hge => ?_⟩
  ·have hlt : i < l.length := by have := of_decide_eq_true hlt; omega
   have hg : l[i]? = some l[i] := List.getElem?_eq_getElem hlt
   have htk : l.take (i + 1) = l.take i ++ [l[i]] := by rw [List.take_add_one, hg]; rfl
   have hc := (hA.toE (st := []) (by simp) 25 []).cell (j := i + 1) (isV_get (x :: l) (i + 1) l[i] hg)
   generalize l[i] = y at hg htk hc
   refine ⟨⟨by omega, by omega, sA⟩, y, by rw [Int.toNat_natCast, Nat.mul_one]; exact hc, ?_⟩
   refine ⟨((i + 1 + 1 : Nat) : Int), ArOk.to (by omega) (by omega) (by omega), lend_rule fun a W rep => again (i + 1) hlt (by omega) a W (rep.le ?_ (by (simp only [setn, List.nil_append, List.cons_append, leF, leH_nil, leH_cons, leF_nil, lk, scp, scpL, scpO, resF, resH, resO, resV, resVL, nth, Nat.reduceBEq, Nat.reduceLT, decide_true, decide_false, List.length, List.length_cons, List.length_nil, Nat.reduceAdd, Bool.and_self, Bool.and_true, and_true, true_and, numF] <;> try simp)))⟩
   rw [htk, minI_snoc]
   (simp only [setn, List.nil_append, List.cons_append, leF, leH_nil, leH_cons, leF_nil, lk, scp, scpL, scpO, resF, resH, resO, resV, resVL, nth, Nat.reduceBEq, Nat.reduceLT, decide_true, decide_false, List.length, List.length_cons, List.length_nil, Nat.reduceAdd, Bool.and_self, Bool.and_true, and_true, true_and, numF] <;> try simp)
   rfl
  ·have hie : i = l.length := by have := of_decide_eq_false hge; omega
   subst hie
   rw [List.take_of_length_le (Nat.le_refl _)]
   exact ret_rule (vs := [.int .i64 (minI x l)]) r28 rfl rfl fun W hW => hR _ _ ⟨rfl, hW.fresh'⟩
end Go.Proofs.Ytbkpiljencaoeaa
namespace Go.Proofs.Ytbkpiljencaoeaa
open Go Go.Sx Go.Gr Go.Proofs Go.Shelf Go.RowKit Go.Lib
set_option maxRecDepth 1000000
set_option linter.unusedVariables false
def lays48_ren : Go.Shelf.Ren := ⟨fun | 4 => 48 | n => n, fun | 22 => 24 | 25 => 3 | n => n, fun | n => n⟩
theorem lays48 : Go.Proofs.Lays8.n4 Try.prog lays48_ren := {
 mixed := by kernel_rfl,
 f4 := by first | exact Try.func48.trans (congrArg some (by kernel_rfl)) | exact ⟨Try.f48.name, by kernel_rfl, Try.func48.trans (congrArg some (by kernel_rfl))⟩,
 t0 := Try.underlying0,
 a0 := Try.isAgg0,
 z0 := Try.sizeOf0,
 v0 := Try.zeroValue0,
 t3 := Try.underlying3,
 a3 := Try.isAgg3,
 z3 := Try.sizeOf3,
 v3 := Try.zeroValue3,
 t4 := Try.underlying4,
 a4 := Try.isAgg4,
 z4 := Try.sizeOf4,
 v4 := Try.zeroValue4,
 t9 := Try.underlying9,
 a9 := Try.isAgg9,
 z9 := Try.sizeOf9,
 v9 := Try.zeroValue9,
 t20 := Try.underlying20,
 a20 := Try.isAgg20,
 z20 := Try.sizeOf20,
 v20 := Try.zeroValue20,
 t22 := Try.underlying24,
 a22 := Try.isAgg24,
 z22 := Try.sizeOf24,
 v22 := Try.zeroValue24 }
theorem zero3 : ∃ i0 z, Try.prog.info? 3 = some i0 ∧ i0.zero = some z ∧ i0.size = 1 ∧ i0.bytes = 8 ∧ z.cells = #[.int .i64 0] := by
 have h : (Try.prog.info? 3).bind (fun i => i.zero.map fun z => (i.size, i.bytes, z.cells)) = some (1, 8, #[.int .i64 0]) := by kernel_rfl
 cases h1 : Try.prog.info? 3 with
 | none => rw [h1] at h; cases h
 | some i0 =>
  rw [h1] at h
  simp only [Option.bind_some] at h
  cases h2 : i0.zero with
  | none => rw [h2] at h; cases h
  | some z =>
   rw [h2] at h
   simp only [Option.map_some, Option.some.injEq, Prod.mk.injEq] at h
   exact ⟨i0, z, rfl, h2, h.1, h.2.1, h.2.2⟩
theorem grow48 (n : Nat) (w : World) (h0 : 0 < n) (hn : n ≤ 1000000) : CallsV Try.prog 48 [.slice none 0 0, .int .i64 n] w fun v w' => World.ownsB w' w.heap.size 3 1 v 0 [] ∧ Fresh w w' := by
 obtain ⟨i0, z, hi, hz, hs, hb, hc⟩ := zero3
 have h := Any8.slices_Grow_grow lays48 i0 z hi hz (by omega) none 0 0 n [] w (Nat.le_refl _) (by omega) (by rw [hb]; omega) (by omega) (by simp) (fun _ => rfl) (fun a e => by cases e)
 change Calls Try.prog 48 _ _ _ at h
 refine Calls.mono h ?_
 rintro e w' ⟨rfl, rfl⟩
 have hge : 0 + n ≤ grownCap w (0 + n) 0 (lays48_ren.t 25) := grownCap_ge w _ _ _
 have hle := grownCap_le_maxLen w (0 + n) 0 (lays48_ren.t 25) (by unfold maxLen; omega)
 generalize grownCap w (0 + n) 0 (lays48_ren.t 25) = G at hge hle ⊢
 refine ⟨⟨rfl, .inr ⟨w.heap.size, 0, G, _, rfl, Nat.le_refl _, heap_alloc_new w.drew _, Nat.zero_le _, hle, ?_, by simp⟩⟩, ⟨rfl, rfl, rfl, by simp, fun k hk => heap_alloc_old w.drew _ hk⟩⟩
 rw [hc]
 simp [Builtin.zeroCells]
 omega
end Go.Proofs.Ytbkpiljencaoeaa
namespace Go.Proofs.Ytbkpiljencaoeaa
open Go Go.Sx Go.Gr
set_option maxRecDepth 100000
def slV (p : List Int × NHd) : Value := .slice p.2.A p.1.length p.2.c
def sumL (L : List (List Int × NHd)) : Nat := (L.map fun p => p.1.length).sum
theorem sumL_snoc (L : List (List Int × NHd)) (p : List Int × NHd) : sumL (L ++ [p]) = sumL L + p.1.length := by simp [sumL]
theorem sumL_take (L : List (List Int × NHd)) (i : Nat) : sumL (L.take i) ≤ sumL L := by
 have : sumL L = sumL (L.take i) + sumL (L.drop i) := by
  unfold sumL
  rw [← List.sum_append, ← List.map_append, List.take_append_drop]
 omega
def catL (L : List (List Int × NHd)) : List Int := L.flatMap (·.1)
theorem catL_len (L : List (List Int × NHd)) : (catL L).length = sumL L := by simp [catL, sumL, List.length_flatMap]
theorem concat29 (S : Option Addr) (sc : Nat) (L : List (List Int × NHd)) (w : World) (hS : RowAt w S (L.map slV)) (hL : ∀ p ∈ L, RowAt w p.2.A (isV p.1)) (h0 : 0 < sumL L) (hs : sumL L ≤ 100000) (hn : L.length ≤ 1000) :
  CallsV Try.prog 29 [.slice S L.length sc] w fun v w' => World.ownsB w' w.heap.size 3 1 v (catL L).length (isV (catL L)) ∧ Fresh w w' := by
 refine calls_go (keep := K29) (nt := 36) (svs := [.val (.slice S L.length sc)]) Try.func29 x29 n29 (by simp) (by simp [IsL, Is]) fun R hR => ?_
 have at1 : ∀ i, (h : i < L.length) → CellAt ⟨w, w.heap.size, [], 36, []⟩ S i (slV L[i]) := fun i h => (hS.toE (st := []) (by simp) 36 []).cell (by rw [List.getElem?_map, List.getElem?_eq_getElem h]; rfl)
 have sS : 0 < L.length → S.isSome = true := fun h => hS.isSome (j := 0) (by rw [List.length_map]; exact h)
 have lp : ∀ p ∈ L, p.1.length ≤ 100000 := fun p hp => by
  have : p.1.length ≤ sumL L := by
   obtain ⟨i, hi⟩ := List.getElem?_of_mem hp
   have h1 := sumL_take L (i + 1)
   rw [List.take_add_one, hi] at h1
   have h2 := sumL_snoc (L.take i) p
   simp only [Option.toList_some] at h1
   omega
  omega
 (refine Y_go 600 ?_; dsimp only [X29, numF, Nat.reduceAdd, zq9r, zq9q, Y_k, zq4u, zq8p, zq6u, YK, zq8t, zq9i, normF, zq6n, Nat.reduceBEq, zq6l, zq6k, zq6m, zq86, zq87, zq9y, t29n14, T29n14, zq6q, t29n13, T29n13, zq8o, zq55, zq0r, zq9t, zq9v])
 refine loop_go (α := Nat) (fun i => i ≤ L.length) (fun _ => ⟨w, w.heap.size, [], 36, []⟩)
  (fun i => { F := [(0, .val (.slice S L.length sc)), (3, .val (.int .i64 (sumL (L.take i)))), (9, .val (.slice S L.length sc)), (10, .val (.int .i64 L.length)), (11, .val (.int .i64 i))], H := [] }) (fun i => L.length - i) (fun _ => rfl) ?start ?round
 case start =>
  intro a W rep
  exact ⟨0, Nat.zero_le _, rep.le (by (simp only [setn, List.nil_append, List.cons_append, leF, leH_nil, leH_cons, leF_nil, lk, scp, scpL, scpO, resF, resH, resO, resV, resVL, nth, Nat.reduceBEq, Nat.reduceLT, decide_true, decide_false, List.length, List.length_cons, List.length_nil, Nat.reduceAdd, Bool.and_self, Bool.and_true, and_true, true_and, numF] <;> try simp); rfl) (by (simp only [setn, List.nil_append, List.cons_append, leF, leH_nil, leH_cons, leF_nil, lk, scp, scpL, scpO, resF, resH, resO, resV, resVL, nth, Nat.reduceBEq, Nat.reduceLT, decide_true, decide_false, List.length, List.length_cons, List.length_nil, Nat.reduceAdd, Bool.and_self, Bool.and_true, and_true, true_and, numF] <;> try simp))⟩
 case round =>
  rintro i hi I again
  (refine Y_go 600 ?_; dsimp only [zq9y, t29n5, T29n5, zq9r, zq9q, Y_k, zq50, zq8o, zq6n, Nat.reduceBEq, zq6l, zq6k, zq04, zq92, zq9b, zq0i, zq9e, YK, zq8t, zq9i, normF, zq6m, zq86, zq87, t29n4, T29n4, zq9s, zq6h, zq8x, YC, zq9p, t29n3, T29n3, zq9t, zq58, zq06, zq0w, zq5c, zq1p, zq1g, List.nil_append, zq1b, zq18, zq4u, zq89, t29n2, T29n2, zq55, zq0r, zq4w, zq0e, t29n1, T29n1, zq8p, zq6q, t29n0, T29n0, zqa1, zq8a, zqa2, zq9u, popTo, zq6i, YP, t29n12, T29n12, zq9j])
  refine ⟨fun hlt => ?_, fun hge => ?_⟩
  ·have hlt : i < L.length := by have := of_decide_eq_true hlt; omega
   have hc := at1 i hlt
   have htk : L.take (i + 1) = L.take i ++ [L[i]] := by rw [List.take_add_one, List.getElem?_eq_getElem hlt]; rfl
   have hm := List.getElem_mem hlt
   generalize L[i] = p at hc htk hm
   obtain ⟨xs, d⟩ := p
   have hsn := sumL_snoc (L.take i) (xs, d)
   have hst := sumL_take L (i + 1)
   rw [htk] at hst
   have hst0 := sumL_take L i
   simp only at hsn
   refine ⟨⟨by omega, by omega, sS (by omega)⟩, d.A, xs.length, d.c, by rw [Int.toNat_natCast, Nat.mul_one]; exact hc, ?_⟩
   refine ⟨((sumL (L.take (i + 1)) : Nat) : Int), by rw [htk, hsn]; exact ArOk.to (by omega) (by omega) (by omega), fun h => absurd (of_decide_eq_true h) (by omega), fun _ => ⟨((i + 1 : Nat) : Int), ArOk.to (by omega) (by omega) (by omega), lend_rule fun a W rep => again (i + 1) hlt (by omega) a W (rep.le (by (simp only [setn, List.nil_append, List.cons_append, leF, leH_nil, leH_cons, leF_nil, lk, scp, scpL, scpO, resF, resH, resO, resV, resVL, nth, Nat.reduceBEq, Nat.reduceLT, decide_true, decide_false, List.length, List.length_cons, List.length_nil, Nat.reduceAdd, Bool.and_self, Bool.and_true, and_true, true_and, numF] <;> try simp)) (by (simp only [setn, List.nil_append, List.cons_append, leF, leH_nil, leH_cons, leF_nil, lk, scp, scpL, scpO, resF, resH, resO, resV, resVL, nth, Nat.reduceBEq, Nat.reduceLT, decide_true, decide_false, List.length, List.length_cons, List.length_nil, Nat.reduceAdd, Bool.and_self, Bool.and_true, and_true, true_and, numF] <;> try simp)))⟩⟩
  ·have hie : i = L.length := by have := of_decide_eq_false hge; omega
   subst hie
   rw [List.take_of_length_le (Nat.le_refl _)]
   refine call_own (vs := [.slice none 0 0, .int .i64 (sumL L)]) rfl (t := 3) (sz := 1) (n := 0) (xs := []) (fun W hW => grow48 (sumL L) W h0 (by omega)) fun A1 c1 => ?_
   dsimp only [List.length_nil, zq8t, List.nil_append]
   (refine Y_go 600 ?_; dsimp only [Y_k, zq4u, zq8o, zq6n, Nat.reduceBEq, zq6k, YK, zq8t, zq9i, normF, zq6l, zq6m, zq86, zq8a, zq87, zq8f, zq9y, t29n11, T29n11, zq9r, zq9q, zq55, zq0r, zq8p, zq6q, zq9t, zq9v])
   refine loop_go (α := Nat × Option Addr × Nat) (fun q => q.1 ≤ L.length) (fun _ => ⟨w, w.heap.size, [], 36, []⟩)
    (fun q => { F := [(6, .own 0 0), (25, .val (.slice S L.length sc)), (26, .val (.int .i64 L.length)), (27, .val (.int .i64 q.1))], H := [.own 3 0 1 q.2.1 (catL (L.take q.1)).length q.2.2 (isV (catL (L.take q.1)))] }) (fun q => L.length - q.1) (fun _ => rfl) ?start2 ?round2
   case start2 =>
    intro a W rep
    exact ⟨(0, A1, c1), Nat.zero_le _, rep.le (by (simp only [setn, List.nil_append, List.cons_append, leF, leH_nil, leH_cons, leF_nil, lk, scp, scpL, scpO, resF, resH, resO, resV, resVL, nth, Nat.reduceBEq, Nat.reduceLT, decide_true, decide_false, List.length, List.length_cons, List.length_nil, Nat.reduceAdd, Bool.and_self, Bool.and_true, and_true, true_and, numF] <;> try simp)) (by (simp only [setn, List.nil_append, List.cons_append, leF, leH_nil, leH_cons, leF_nil, lk, scp, scpL, scpO, resF, resH, resO, resV, resVL, nth, Nat.reduceBEq, Nat.reduceLT, decide_true, decide_false, List.length, List.length_cons, List.length_nil, Nat.reduceAdd, Bool.and_self, Bool.and_true, and_true, true_and, numF] <;> try simp); exact ⟨rfl, rfl⟩)⟩
   case round2 =>
    rintro ⟨i, B, bc⟩ hi I2 again2
    simp only at hi ⊢
    (refine Y_go 600 ?_; dsimp only [zq9y, t29n9, T29n9, zq9r, zq9q, Y_k, zq50, zq8o, zq6n, Nat.reduceBEq, zq6l, zq6k, zq04, zq92, zq9b, zq0i, zq9e, YK, zq8t, zq9i, normF, zq6m, zq87, zq86, zq8f, t29n8, T29n8, zq9s, zq6h, zq8x, YC, zq9p, t29n7, T29n7, zq9t, zq58, zq06, zq0w, zq5c, zq1p, zq1g, List.nil_append, zq1b, zq18, zq4u, zq89, t29n6, T29n6, zq5l, zq2w, nth, zq09, zq08, zq2s, zq2r, zq2o, zq2h, Nat.reduceAdd, setn, zqa1, zq4w, zq8p, zq6q, zq0e, zqa2, zq9u, popTo, zq6i, YP, t29n10, T29n10, zq8a, zq9x])
    refine ⟨fun hlt => ?_, fun hge => ?_⟩
    ·have hlt : i < L.length := by have := of_decide_eq_true hlt; omega
     have hc := at1 i hlt
     have htk : L.take (i + 1) = L.take i ++ [L[i]] := by rw [List.take_add_one, List.getElem?_eq_getElem hlt]; rfl
     have hm := List.getElem_mem hlt
     generalize L[i] = p at hc htk hm
     have hr := hL p hm
     have hp := lp p hm
     obtain ⟨xs, d⟩ := p
     simp only at hr hp
     have hst0 := sumL_take L i
     rw [← catL_len] at hst0
     have hrd := hr.rd (nt := 36) (isV_one xs)
     rw [isV_len, ← Nat.mul_one xs.length] at hrd
     have e1 : catL (L.take (i + 1)) = catL (L.take i) ++ xs := by rw [htk]; simp [catL]
     refine ⟨⟨by omega, by omega, sS (by omega)⟩, d.A, xs.length, d.c, by rw [Int.toNat_natCast, Nat.mul_one]; exact hc, _, hrd, ⟨by simp only [maxLen]; omega, by omega⟩, fun B2 bc2 => ⟨((i + 1 : Nat) : Int), ArOk.to (by omega) (by omega) (by omega), lend_rule fun a W rep => again2 (i + 1, B2, bc2) hlt (by simp only; omega) a W ?_⟩⟩
     have e2 : isV (catL (L.take i) ++ xs) = isV (catL (L.take i)) ++ isV xs := by simp [isV]
     simp only [e1, e2, List.length_append]
     exact rep.res.le (by (simp only [setn, List.nil_append, List.cons_append, leF, leH_nil, leH_cons, leF_nil, lk, scp, scpL, scpO, resF, resH, resO, resV, resVL, nth, Nat.reduceBEq, Nat.reduceLT, decide_true, decide_false, List.length, List.length_cons, List.length_nil, Nat.reduceAdd, Bool.and_self, Bool.and_true, and_true, true_and, numF] <;> try simp)) (by (simp only [setn, List.nil_append, List.cons_append, leF, leH_nil, leH_cons, leF_nil, lk, scp, scpL, scpO, resF, resH, resO, resV, resVL, nth, Nat.reduceBEq, Nat.reduceLT, decide_true, decide_false, List.length, List.length_cons, List.length_nil, Nat.reduceAdd, Bool.and_self, Bool.and_true, and_true, true_and, numF] <;> try simp))
    ·have hie : i = L.length := by have := of_decide_eq_false hge; omega
     subst hie
     rw [List.take_of_length_le (Nat.le_refl _)]
     exact ret_rule (vs := [.slice B (catL L).length bc]) r29 rfl rfl fun W hW => hR _ _ ⟨hW.owns (i := 0) rfl, hW.fresh'⟩
end Go.Proofs.Ytbkpiljencaoeaa
