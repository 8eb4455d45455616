/- clocks.Join, Below; what may not be. -/
import Derived.Test.YtnedgfkgmdoahaaClkSpec
import Derived.Test.YtnedgfkgmdoahaaClkCode
set_option linter.unusedSimpArgs false
set_option linter.unusedVariables false
set_option linter.unnecessarySimpa false
namespace Go.Proofs.Ytnedgfkgmdoahaa
open Go Go.Sx Go.Clk
set_option maxRecDepth 100000
def fv (a b : Ck) (i j : Int) : Int := if j < i then max (a j.toNat) (b j.toNat) else a j.toNat
theorem join48 (a b : Ck) (w : World) : CallsV Try.prog 48 [.agg (ckV a).toArray, .agg (ckV b).toArray] w fun v w' => v = .agg (ckV (join a b)).toArray ∧ Fresh w w' := by
 refine calls_go (keep := K48) (nt := 20) (svs := [.agg (ckS a), .agg (ckS b)]) Try.func48 x48 n48 (by simp) (by simp [IsL, Is, ckS, ckV]) fun R hR => ?_
 (refine Y_go 600 ?_; dsimp only [X48, ckS, numF, Nat.reduceAdd, zq9r, zq9q, Y_k, zq5f, zq8o, zq6n, Nat.reduceBEq, zq6k, zq7t, List.length_cons, List.length_nil, zq8l, zq73, zq8m, zq8k, zq0a, zq1z, List.nil_append, YK, zq8t, zq6l, List.cons_append, zq5e, List.map, zq6q, zq9i, normF, zq6m, zq86, zq8c, zq88, zq9y, t48n5, T48n5, zq4u, zq8p, zq87, zq9t, zq9v])
 intro g2 g3 g4
 refine loop_go (α := Int) (fun i => 0 ≤ i ∧ i ≤ 4) (fun _ => ⟨w, w.heap.size, [], 20, []⟩)
  (fun i => { F := [(2, .ptr 0 0), (3, .ptr 1 0), (4, .ptr 2 0), (6, .val (.int .i64 i))], H := [.cells g2 56 [.val (.int .i64 (fv a b i 0)), .val (.int .i64 (fv a b i 1)), .val (.int .i64 (fv a b i 2)), .val (.int .i64 (fv a b i 3))], .cells g3 56 (ckS b), .cells g4 56 [.val (.int .i64 0), .val (.int .i64 0), .val (.int .i64 0), .val (.int .i64 0)]] }) (fun i => (4 - i).toNat) (fun _ => rfl) ?start ?round
 case start =>
  intro a' W rep
  refine ⟨0, ⟨by omega, by omega⟩, rep.le ?_ ?_⟩ <;> (simp only [setn, List.nil_append, List.cons_append, leF, leH_nil, leH_cons, leF_nil, lk, scp, scpL, scpO, resF, resH, resO, resV, resVL, nth, Nat.reduceBEq, Nat.reduceLT, decide_true, decide_false, List.length, List.length_cons, List.length_nil, Nat.reduceAdd, Bool.and_self, Bool.and_true, and_true, true_and, numF] <;> try simp) <;> (try simp [fv, ckS, scp, scpL])
 case round =>
  rintro i hi I hI
  have hi : 0 ≤ i ∧ i ≤ 4 := hi
  obtain rfl | rfl | rfl | rfl | rfl : i = 0 ∨ i = 1 ∨ i = 2 ∨ i = 3 ∨ i = 4 := by omega
  ·(refine Y_go 600 ?_; dsimp only [ckS, zq9y, t48n3, T48n3, zq9r, zq9q, Y_k, zq50, zq8o, zq6n, Nat.reduceBEq, zq6l, zq6k, zq8p, zq6q, zq04, zq92, zq9b, zq0i, zq9e, YK, zq8t, zq9i, normF, zq6m, zq87, zq86, zq8c, t48n2, T48n2, zq9s, zq6h, zq8x, YC, zq9p, t48n1, T48n1, zq9t, zq4u, zq89, t48n0, T48n0, zq59, zq06, zq10, Int.reduceToNat, Nat.reduceMul, Nat.add_zero, zq5c, zq1o, nth, zq1k, List.length_cons, List.length_nil, Nat.reduceAdd, dropL, takeL, zq19, zq18, zq5u, zq43, zq5d, zq7u, zq73, zq0a, zq1x, zq1t, zq1r, splice, setn, zq8s, zqa1, zq4w, zq0e, zqa2, zq9u, popTo, zq6i, YP, t48n4, T48n4, zq17, zq7t, zq8l, zq8m, zq8k, zq8a, zq9x])
   refine ⟨fun _ => ⟨⟨by omega, by omega⟩, ⟨by omega, by omega⟩, ⟨by omega, by omega⟩, _, .to (r := 1) rfl (by omega) (by omega), lend_rule fun a' W rep => hI 1 ⟨by omega, by omega⟩ (by show ((4:Int) - 1).toNat < ((4:Int) - 0).toNat; decide) a' W (rep.le ?_ ?_)⟩, fun h => absurd h (by decide)⟩ <;> (simp only [setn, List.nil_append, List.cons_append, leF, leH_nil, leH_cons, leF_nil, lk, scp, scpL, scpO, resF, resH, resO, resV, resVL, nth, Nat.reduceBEq, Nat.reduceLT, decide_true, decide_false, List.length, List.length_cons, List.length_nil, Nat.reduceAdd, Bool.and_self, Bool.and_true, and_true, true_and, numF] <;> try simp) <;> (try simp [fv, mmV, ckS, scp, scpL])
  ·(refine Y_go 600 ?_; dsimp only [ckS, zq9y, t48n3, T48n3, zq9r, zq9q, Y_k, zq50, zq8o, zq6n, Nat.reduceBEq, zq6l, zq6k, zq8p, zq6q, zq04, zq92, zq9b, zq0i, zq9e, YK, zq8t, zq9i, normF, zq6m, zq87, zq86, zq8c, t48n2, T48n2, zq9s, zq6h, zq8x, YC, zq9p, t48n1, T48n1, zq9t, zq4u, zq89, t48n0, T48n0, zq59, zq06, zq10, Int.reduceToNat, Nat.reduceMul, Nat.reduceAdd, zq5c, zq1o, nth, zq1k, List.length_cons, List.length_nil, dropL, takeL, zq19, zq18, zq5u, zq43, zq5d, zq7u, zq73, zq0a, zq1x, zq1t, zq1r, splice, setn, zq8s, zqa1, zq4w, zq0e, zqa2, zq9u, popTo, zq6i, YP, t48n4, T48n4, zq17, zq7t, zq8l, zq8m, zq8k, zq8a, zq9x])
   refine ⟨fun _ => ⟨⟨by omega, by omega⟩, ⟨by omega, by omega⟩, ⟨by omega, by omega⟩, _, .to (r := 2) rfl (by omega) (by omega), lend_rule fun a' W rep => hI 2 ⟨by omega, by omega⟩ (by show ((4:Int) - 2).toNat < ((4:Int) - 1).toNat; decide) a' W (rep.le ?_ ?_)⟩, fun h => absurd h (by decide)⟩ <;> (simp only [setn, List.nil_append, List.cons_append, leF, leH_nil, leH_cons, leF_nil, lk, scp, scpL, scpO, resF, resH, resO, resV, resVL, nth, Nat.reduceBEq, Nat.reduceLT, decide_true, decide_false, List.length, List.length_cons, List.length_nil, Nat.reduceAdd, Bool.and_self, Bool.and_true, and_true, true_and, numF] <;> try simp) <;> (try simp [fv, mmV, ckS, scp, scpL])
  ·(refine Y_go 600 ?_; dsimp only [ckS, zq9y, t48n3, T48n3, zq9r, zq9q, Y_k, zq50, zq8o, zq6n, Nat.reduceBEq, zq6l, zq6k, zq8p, zq6q, zq04, zq92, zq9b, zq0i, zq9e, YK, zq8t, zq9i, normF, zq6m, zq87, zq86, zq8c, t48n2, T48n2, zq9s, zq6h, zq8x, YC, zq9p, t48n1, T48n1, zq9t, zq4u, zq89, t48n0, T48n0, zq59, zq06, zq10, Int.reduceToNat, Nat.reduceMul, Nat.reduceAdd, zq5c, zq1o, nth, zq1k, List.length_cons, List.length_nil, dropL, takeL, zq19, zq18, zq5u, zq43, zq5d, zq7u, zq73, zq0a, zq1x, zq1t, zq1r, splice, setn, zq8s, zqa1, zq4w, zq0e, zqa2, zq9u, popTo, zq6i, YP, t48n4, T48n4, zq17, zq7t, zq8l, zq8m, zq8k, zq8a, zq9x])
   refine ⟨fun _ => ⟨⟨by omega, by omega⟩, ⟨by omega, by omega⟩, ⟨by omega, by omega⟩, _, .to (r := 3) rfl (by omega) (by omega), lend_rule fun a' W rep => hI 3 ⟨by omega, by omega⟩ (by show ((4:Int) - 3).toNat < ((4:Int) - 2).toNat; decide) a' W (rep.le ?_ ?_)⟩, fun h => absurd h (by decide)⟩ <;> (simp only [setn, List.nil_append, List.cons_append, leF, leH_nil, leH_cons, leF_nil, lk, scp, scpL, scpO, resF, resH, resO, resV, resVL, nth, Nat.reduceBEq, Nat.reduceLT, decide_true, decide_false, List.length, List.length_cons, List.length_nil, Nat.reduceAdd, Bool.and_self, Bool.and_true, and_true, true_and, numF] <;> try simp) <;> (try simp [fv, mmV, ckS, scp, scpL])
  ·(refine Y_go 600 ?_; dsimp only [ckS, zq9y, t48n3, T48n3, zq9r, zq9q, Y_k, zq50, zq8o, zq6n, Nat.reduceBEq, zq6l, zq6k, zq8p, zq6q, zq04, zq92, zq9b, zq0i, zq9e, YK, zq8t, zq9i, normF, zq6m, zq87, zq86, zq8c, t48n2, T48n2, zq9s, zq6h, zq8x, YC, zq9p, t48n1, T48n1, zq9t, zq4u, zq89, t48n0, T48n0, zq59, zq06, zq10, Int.reduceToNat, Nat.reduceMul, Nat.reduceAdd, zq5c, zq1o, nth, zq1k, List.length_cons, List.length_nil, dropL, takeL, zq19, zq18, zq5u, zq43, zq5d, zq7u, zq73, zq0a, zq1x, zq1t, zq1r, splice, setn, zq8s, zqa1, zq4w, zq0e, zqa2, zq9u, popTo, zq6i, YP, t48n4, T48n4, zq17, zq7t, zq8l, zq8m, zq8k, zq8a, zq9x])
   refine ⟨fun _ => ⟨⟨by omega, by omega⟩, ⟨by omega, by omega⟩, ⟨by omega, by omega⟩, _, .to (r := 4) rfl (by omega) (by omega), lend_rule fun a' W rep => hI 4 ⟨by omega, by omega⟩ (by show ((4:Int) - 4).toNat < ((4:Int) - 3).toNat; decide) a' W (rep.le ?_ ?_)⟩, fun h => absurd h (by decide)⟩ <;> (simp only [setn, List.nil_append, List.cons_append, leF, leH_nil, leH_cons, leF_nil, lk, scp, scpL, scpO, resF, resH, resO, resV, resVL, nth, Nat.reduceBEq, Nat.reduceLT, decide_true, decide_false, List.length, List.length_cons, List.length_nil, Nat.reduceAdd, Bool.and_self, Bool.and_true, and_true, true_and, numF] <;> try simp) <;> (try simp [fv, mmV, ckS, scp, scpL])
  ·(refine Y_go 600 ?_; dsimp only [ckS, zq9y, t48n3, T48n3, zq9r, zq9q, Y_k, zq50, zq8o, zq6n, Nat.reduceBEq, zq6l, zq6k, zq8p, zq6q, zq04, zq92, zq9b, zq0i, zq9e, YK, zq8t, zq9i, normF, zq6m, zq87, zq86, zq8c, t48n2, T48n2, zq9s, zq6h, zq8x, YC, zq9p, t48n1, T48n1, zq9t, zq4u, zq89, t48n0, T48n0, zq59, zq06, zq10, Int.reduceToNat, Nat.reduceMul, Nat.reduceAdd, zq5c, zq1o, nth, zq1k, List.length_cons, List.length_nil, dropL, takeL, zq9u, popTo, zq6i, YP, t48n4, T48n4, zq19, zq17, zq5d, zq7t, zq8l, zq73, zq8m, zq8k, zq0a, zq1x, zq1t, zq1r, splice, setn, zq8s, zq8a, zq9x])
   refine ⟨fun h => absurd h (by decide), fun _ => ?_⟩
   refine ret_rv (vs := [.agg (ckV (join a b)).toArray]) r48 rfl ?_ fun W hW => hR _ _ ⟨by simp [tupOf], hW.fresh'⟩
   simp [denR, cellV, nth, takeL, dropL, denL, den, oneV, lk, fv, ckV, join]
theorem below28 (a b : Ck) (w : World) : CallsV Try.prog 28 [.agg (ckV a).toArray, .agg (ckV b).toArray] w fun v w' => v = .bool (belB a b) ∧ Fresh w w' := by
 refine calls_go (keep := K28) (nt := 10) (svs := [.agg (ckS a), .agg (ckS b)]) Try.func28 x28 n28 (by simp) (by simp [IsL, Is, ckS, ckV]) fun R hR => ?_
 (refine Y_go 600 ?_; dsimp only [X28, ckS, numF, Nat.reduceAdd, zq9r, zq9q, Y_k, zq5f, zq8o, zq6n, Nat.reduceBEq, zq6k, zq7t, List.length_cons, List.length_nil, zq8l, zq73, zq8m, zq8k, zq0a, zq1z, List.nil_append, YK, zq8t, zq6l, List.cons_append, zq4u, zq8p, zq6p, zq9i, normF, zq8a, zq8c, zq88, zq9y, t28n0, T28n0, zq5c, zq1o, nth, zq1k, dropL, takeL, zq19, zq17, zq9j])
 intro g2 g3
 refine call_val (vs := [.agg (ckV a).toArray, .agg (ckV b).toArray]) rfl (fun W hW => join48 a b W) fun v hv => ⟨.agg (ckS (join a b)), by rw [hv]; exact ck_is _ _, ?_⟩
 (refine still_y (by dsimp only [ckS, zq8t, zq6n, Nat.reduceBEq, zq6l, zq6k, zq5c, zq8o, zq1o, nth, zq1k, List.length_cons, List.length_nil, Nat.reduceAdd, dropL, takeL, zq19, zq17]; exact ⟨rfl, det_of_den rfl⟩) ?_; refine Y_go 600 ?_; dsimp only [ckS, zq8t, Y_k, zq5s, zq8o, zq6n, Nat.reduceBEq, zq6k, zq6l, zq3o, eqSV, zq92, zq3q, YK, zq4u, zq9i, normF, zq87, zq8c, zq88, zq9x])
 exact ret_rule (vs := [.bool (belB a b)]) r28 rfl rfl fun W hW => hR _ _ ⟨rfl, hW.fresh'⟩
theorem bad67 (x : Sy) (w : World) : CallsV Try.prog 67 [x.val] w fun v w' => v = .bool (badB x) ∧ Fresh w w' := by
 refine calls_go (keep := K67) (nt := 26) (svs := [.agg x.sv]) Try.func67 x67 n67 (by simp) (by simp [IsL, Is, Sy.sv, Sy.cells]) fun R hR => ?_
 (refine Y_go 600 ?_; dsimp only [X67, Sy.sv, numF, Nat.reduceAdd, zq9r, zq9q, Y_k, zq5f, zq8o, zq6n, Nat.reduceBEq, zq6k, zq7t, List.length_cons, List.length_nil, zq8l, zq73, zq8m, zq8k, zq0a, zq1z, List.nil_append, YK, zq8t, zq4u, zq8p, zq6p, zq9i, normF, zq6l, zq8a, zq8c, zq88, zq9y, t67n0, T67n0, zq5a, zq14, Nat.add_zero, zq5c, zq1o, nth, zq1k, dropL, takeL, zq19, zq18, zq50, zq6q, zq04, zq92, zq9b, zq0i, zq9e, Y_gk, zq6e, YS, zq6a, zq4v, zq6o, zq0b, zq89, zq9x, YR, zq6c, zq9h, zq0c, zq9g, zq87])
 intro g1
 have done : ∀ s b, denAll s.H s.F [2] = some [.bool b] → b = badB x → RetG (cxOf Try.prog Try.f67 K67 T67 R) ⟨w, w.heap.size, [], 26, []⟩ s := fun s b hs hb =>
  ret_rule (vs := [.bool b]) r67 rfl hs fun W hW => hR _ _ ⟨by rw [hb]; rfl, hW.fresh'⟩
 have yes : ∀ {p : Prop}, (okS x → p) → ¬ p → true = badB x := fun h1 h2 => by simp [badB]; exact fun h => h2 (h1 h)
 refine ⟨fun h => done _ true rfl (yes (fun q => q.1) (by have := of_decide_eq_true h; omega)), fun h1 => ⟨fun h => done _ true rfl (yes (fun q => q.2.1) (by have := of_decide_eq_true h; omega)), fun h2 => ⟨fun h => done _ true rfl (yes (fun q => q.2.2.1) (by have := of_decide_eq_true h; omega)), fun h3 => ⟨fun h => done _ true rfl (yes (fun q => q.2.2.2.1) (by have := of_decide_eq_true h; omega)), fun h4 => done _ _ rfl ?_⟩⟩⟩⟩
 have h1 := of_decide_eq_false h1; have h2 := of_decide_eq_false h2; have h3 := of_decide_eq_false h3; have h4 := of_decide_eq_false h4
 unfold badB okS
 rw [decide_eq_decide]
 omega
theorem ok67 : fnOk Try.prog 67 = true := by kernel_rfl
theorem find76 (A : Option Addr) (c : Nat) (l : List Sy) (w : World) (hA : RowAt w A (cellsS l)) (hl : l.length ≤ 400) :
  CallsV Try.prog 76 [.slice A l.length c, .func (.func 67) #[] #[]] w fun v w' => Fresh w w' ∧ ∃ n : Int, v = .int .i64 n ∧ (decide (n ≥ 0) = l.any badB) := by
 refine calls_go (keep := K76) (nt := 19) (svs := [.val (.slice A l.length c), .val (.func (.func 67) #[] #[])]) Try.func76 x76 n76 (by simp) (by simp [IsL, Is]) fun R hR => ?_
 (refine Y_go 600 ?_; dsimp only [X76, numF, Nat.reduceAdd, zq9r, zq9q, Y_k, zq4u, zq8p, zq6q, YK, zq8t, zq9i, normF, zq6n, Nat.reduceBEq, zq6l, zq6k, zq6m, zq86, zq87, zq9y, t76n6, T76n6, zq8o, zq55, zq0r, zq9t, zq9v])
 refine loop_go (α := Nat) (fun i => i ≤ l.length ∧ (l.take i).any badB = false) (fun _ => ⟨w, w.heap.size, [], 19, []⟩)
  (fun i => { F := [(0, .val (.slice A l.length c)), (1, .val (.func (.func 67) #[] #[])), (7, .val (.int .i64 l.length)), (8, .val (.int .i64 i))], H := [] }) (fun i => l.length - i) (fun _ => rfl) ?start ?round
 case start =>
  intro a' W rep
  refine ⟨0, ⟨Nat.zero_le _, by simp⟩, rep.le ?_ ?_⟩ <;> (simp only [setn, List.nil_append, List.cons_append, leF, leH_nil, leH_cons, leF_nil, lk, scp, scpL, scpO, resF, resH, resO, resV, resVL, nth, Nat.reduceBEq, Nat.reduceLT, decide_true, decide_false, List.length, List.length_cons, List.length_nil, Nat.reduceAdd, Bool.and_self, Bool.and_true, and_true, true_and, numF] <;> try simp)
 case round =>
  rintro i ⟨hi, hn⟩ I hI
  have hi : i ≤ l.length := hi
  have hn : (l.take i).any badB = false := hn
  (refine Y_go 600 ?_; dsimp only [zq9y, t76n4, T76n4, zq9r, zq9q, Y_k, zq50, zq8o, zq6n, Nat.reduceBEq, zq6l, zq6k, zq04, zq92, zq9b, zq0i, zq9e, YK, zq8t, zq9i, normF, zq6m, zq86, zq87, t76n3, T76n3, zq9s, zq6h, zq8x, YC, zq9p, t76n2, T76n2, zq9t, zq4u, zq89, t76n1, T76n1, zq58, zq06, zq0w, zq5c, zq1p, zq1c, List.nil_append, List.cons_append, zq1b, zq17, zq9k, zq9u, popTo, zq6i, YP, t76n5, T76n5, zq8p, zq6q, zq8a, zq9x])
  refine ⟨fun h => ?_, fun h => ?_⟩
  ·have hlt : i < l.length := by have := of_decide_eq_true h; omega
   have cl : ∀ k v, (l[i]).cells[k]? = some v → CellAt ⟨w, w.heap.size, [], 19, []⟩ A (i * 3 + k) v := by
    intro k v hk
    have := (List.getElem?_eq_some_iff.1 hk).1
    exact hA.cell (by rw [cellsS_get l hlt this]; exact hk)
   refine ⟨⟨by omega, by omega, hA.isSome (j := i * 3) (by rw [cellsS_len]; omega)⟩, _, cl 0 _ rfl, _, cl 1 _ rfl, _, cl 2 _ rfl, ?_⟩
   refine callv_val (R := fun v => v = .bool (badB l[i])) (f := 67) (fst := []) (caps := []) (vs := [(l[i]).val]) rfl ok67 rfl (fun W hW => bad67 l[i] W) fun v hv => ⟨.val (.bool (badB l[i])), by rw [hv]; simp [Is], ?_⟩
   (refine Y_go 600 ?_; dsimp only [zq8t, zq9i, normF, zq6n, Nat.reduceBEq, zq6l, zq6k, zq6m, zq87, zq89, zq86, zq9s, zq8o, zq6h, zq8x, YC, zq9y, t76n0, T76n0, zq9r, zq9q, Y_k, zq4u, YK, zq9x, zq9p, zqa1, zq4w, zq8p, zq6q, zq04, zq92, zq9b, zq0e, zq8a, zqa2])
   refine ⟨fun hb => ?_, fun hb => ⟨_, .add64 (by omega) (by omega), lend_rule fun a W rep => hI (i + 1) ⟨by omega, ?_⟩ (by omega) a W (rep.le ?_ ?_)⟩⟩
   ·refine ret_rule (vs := [.int .i64 i]) r76 rfl rfl fun W hW => hR _ _ ⟨hW.fresh', i, rfl, ?_⟩
    have : l.any badB = true := List.any_eq_true.2 ⟨l[i], List.getElem_mem hlt, hb⟩
    rw [this]; simp
   ·rw [List.take_succ_eq_append_getElem hlt, List.any_append, hn]; simp [hb]
   ·(simp only [setn, List.nil_append, List.cons_append, leF, leH_nil, leH_cons, leF_nil, lk, scp, scpL, scpO, resF, resH, resO, resV, resVL, nth, Nat.reduceBEq, Nat.reduceLT, decide_true, decide_false, List.length, List.length_cons, List.length_nil, Nat.reduceAdd, Bool.and_self, Bool.and_true, and_true, true_and, numF] <;> try simp)
   ·(simp only [setn, List.nil_append, List.cons_append, leF, leH_nil, leH_cons, leF_nil, lk, scp, scpL, scpO, resF, resH, resO, resV, resVL, nth, Nat.reduceBEq, Nat.reduceLT, decide_true, decide_false, List.length, List.length_cons, List.length_nil, Nat.reduceAdd, Bool.and_self, Bool.and_true, and_true, true_and, numF] <;> try simp)
  ·have hil : i = l.length := by have := of_decide_eq_false h; omega
   subst hil
   refine ret_rule (vs := [.int .i64 (-1)]) r76 rfl rfl fun W hW => hR _ _ ⟨hW.fresh', -1, rfl, ?_⟩
   rw [List.take_length] at hn
   rw [hn]; rfl
theorem any66 (A : Option Addr) (c : Nat) (l : List Sy) (w : World) (hA : RowAt w A (cellsS l)) (hl : l.length ≤ 400) :
  CallsV Try.prog 66 [.slice A l.length c, .func (.func 67) #[] #[]] w fun v w' => v = .bool (l.any badB) ∧ Fresh w w' := by
 refine calls_go (keep := K66) (nt := 9) (svs := [.val (.slice A l.length c), .val (.func (.func 67) #[] #[])]) Try.func66 x66 n66 (by simp) (by simp [IsL, Is]) fun R hR => ?_
 (refine Y_go 600 ?_; dsimp only [X66, numF, Nat.reduceAdd, zq9r, zq9q, Y_k, zq4u, zq8p, zq6p, YK, zq8t, zq9i, normF, zq6n, Nat.reduceBEq, zq6l, zq6k, zq8a, zq87, zq9y, t66n0, T66n0, zq8o, zq9j])
 refine call_val (R := fun v => ∃ n : Int, v = .int .i64 n ∧ (decide (n ≥ 0) = l.any badB)) (vs := [.slice A l.length c, .func (.func 67) #[] #[]]) rfl (fun W hW => (find76 A c l W (hA.keep hW.fresh') hl).mono fun v w' h => ⟨h.2, h.1⟩) fun v ⟨n, hv, hn⟩ => ⟨.val (.int .i64 n), by rw [hv]; simp [Is], ?_⟩
 (refine Y_go 600 ?_; dsimp only [zq8t, Y_k, zq50, zq8o, zq6n, Nat.reduceBEq, zq6k, zq8p, zq6q, zq04, zq92, zq9b, zq0i, zq9h, YK, zq4u, zq9i, normF, zq6l, zq87, zq9x])
 refine ret_rule (vs := [.bool _]) r66 rfl rfl fun W hW => hR _ _ ⟨by rw [← hn]; rfl, hW.fresh'⟩
def okLs (l : List Sy) : Prop := l.length ≤ 400 ∧ ∀ x ∈ l, okS x
instance (l : List Sy) : Decidable (okLs l) := by unfold okLs; infer_instance
def errC (l : List Sy) : Int := if okLs l then 0 else 260
theorem anyBad (l : List Sy) : l.any badB = decide (¬ ∀ x ∈ l, okS x) := by
 rw [Bool.eq_iff_iff, List.any_eq_true]
 simp [badB]
theorem may50 (A : Option Addr) (c : Nat) (l : List Sy) (w : World) (hA : RowAt w A (cellsS l)) :
  CallsV Try.prog 50 [.slice A l.length c] w fun v w' => v = .int .i64 (errC l) ∧ Fresh w w' := by
 refine calls_go (keep := K50) (nt := 10) (svs := [.val (.slice A l.length c)]) Try.func50 x50 n50 (by simp) (by simp [IsL, Is]) fun R hR => ?_
 (refine Y_go 600 ?_; dsimp only [X50, numF, Nat.reduceAdd, zq9r, zq9q, Y_k, zq4u, zq8p, zq6q, YK, zq8t, zq9i, normF, zq6n, Nat.reduceBEq, zq6l, zq6k, zq6m, zq86, zq87, zq9y, t50n2, T50n2, zq8o, zq55, zq0r, zq50, zq04, zq92, zq9b, zq0i, zq9g, Y_gk, zq6e, YS, zq9l, zq6a, zq4v, zq6o, zq0b, zq89, zq9s, zq6f, YC, t50n0, T50n0, zq9x, YR, zq6c, YG])
 have done : ∀ s n, denAll s.H s.F [2] = some [.int .i64 n] → n = errC l → RetG (cxOf Try.prog Try.f50 K50 T50 R) ⟨w, w.heap.size, [], 10, []⟩ s := fun s n hs hn =>
  ret_rule (vs := [.int .i64 n]) r50 rfl hs fun W hW => hR _ _ ⟨by rw [hn]; rfl, hW.fresh'⟩
 refine ⟨fun h => done _ _ rfl ?_, fun h => ?_⟩
 ·have := of_decide_eq_true h
  have q : ¬ okLs l := fun q => by have := q.1; omega
  unfold errC; rw [if_neg q]
 ·have h := of_decide_eq_false h
  refine call_val (vs := [.slice A l.length c, .func (.func 67) #[] #[]]) rfl (fun W hW => any66 A c l W (hA.keep hW.fresh') (by omega)) fun v hv => ⟨.val (.bool (l.any badB)), by rw [hv]; simp [Is], ?_⟩
  (refine Y_go 600 ?_; dsimp only [zq8t, Y_k, zq4v, zq8p, zq6o, zq8o, zq6n, Nat.reduceBEq, zq6k, zq6l, zq0c, YK, zq9i, normF, zq87, zq9s, zq6h, zq8x, YC, zq9y, t50n0, T50n0, zq9r, zq9q, zq4u, zq6q, zq89, zq9x, zq9p, t50n1, T50n1, zq8a])
  refine ⟨fun hb => done _ _ rfl ?_, fun hb => done _ _ rfl ?_⟩
  ·rw [anyBad] at hb
   have := of_decide_eq_true hb
   have q : ¬ okLs l := fun q => this q.2
   unfold errC; rw [if_neg q]
  ·rw [anyBad] at hb
   have := of_decide_eq_false hb
   have q : okLs l := ⟨by omega, Classical.not_not.1 this⟩
   unfold errC; rw [if_pos q]
end Go.Proofs.Ytnedgfkgmdoahaa
