/- shuntref26.Races, Like, Pairs, Same; shuntlaw26.twin. -/
import Derived.Test.YtnedgfkgmdoahaaClkR3
import Derived.Test.YtnedgfkgmdoahaaClkLaw4
import Derived.Test.YtnedgfkgmdoahaaClkCodeT
set_option linter.unusedSimpArgs false
set_option linter.unusedVariables false
set_option linter.unnecessarySimpa false
namespace Go.Proofs.Ytnedgfkgmdoahaa
open Go Go.Sx Go.Clk
set_option maxRecDepth 100000
theorem same27c (A B : Option Addr) (ca cb : Nat) (a b : List Sy) (w : World) (hA : RowAt w A (cellsS a)) (hB : RowAt w B (cellsS b)) (hl : a.length ≤ 1000000) (hab : a = b) :
  CallsV Try.prog 27 [.slice A a.length ca, .slice B b.length cb] w fun v w' => v = .bool true ∧ Fresh w w' := by
 subst hab
 refine calls_go (keep := K27) (nt := 26) (svs := [.val (.slice A a.length ca), .val (.slice B a.length cb)]) Try.func27 x27 n27 (by simp) (by simp [IsL, Is]) fun R hR => ?_
 (refine Y_go 600 ?_; dsimp only [X27, numF, Nat.reduceAdd, zq9r, zq9q, Y_k, zq4u, zq8p, zq6p, YK, zq8t, zq9i, normF, zq6n, Nat.reduceBEq, zq6l, zq6k, zq6m, zq86, zq8a, zq87, zq9y, t27n7, T27n7, zq8o, zq55, zq0r, zq50, zq04, zq92, zq9b, zq0i, zq9d, zq9s, zq6h, zq8x, YC, t27n0, T27n0, zq89, zq9x, zq9p, t27n6, T27n6, zq6q, zq9t, zq9v])
 refine ⟨fun hb => absurd hb (by simp), fun _ => ?_⟩
 refine loop_go (α := Nat) (fun i => i ≤ a.length) (fun _ => ⟨w, w.heap.size, [], 26, []⟩)
  (fun i => { F := [(0, .val (.slice A a.length ca)), (1, .val (.slice B a.length cb)), (5, .val (.int .i64 i))], H := [] }) (fun i => a.length - i) (fun _ => rfl) ?start ?round
 case start =>
  intro a' W rep
  exact ⟨0, Nat.zero_le _, rep.le (by (simp only [setn, List.nil_append, List.cons_append, leF, leH_nil, leH_cons, leF_nil, lk, scp, scpL, scpO, resF, resH, resO, resV, resVL, nth, Nat.reduceBEq, Nat.reduceLT, decide_true, decide_false, List.length, List.length_cons, List.length_nil, Nat.reduceAdd, Bool.and_self, Bool.and_true, and_true, true_and, numF] <;> try simp)) (by (simp only [setn, List.nil_append, List.cons_append, leF, leH_nil, leH_cons, leF_nil, lk, scp, scpL, scpO, resF, resH, resO, resV, resVL, nth, Nat.reduceBEq, Nat.reduceLT, decide_true, decide_false, List.length, List.length_cons, List.length_nil, Nat.reduceAdd, Bool.and_self, Bool.and_true, and_true, true_and, numF] <;> try simp))⟩
 case round =>
  intro i hi I again
  have hi : i ≤ a.length := hi
  (refine Y_go 600 ?_; dsimp only [zq9y, t27n4, T27n4, zq9r, zq9q, Y_k, zq4u, zq8o, zq6n, Nat.reduceBEq, zq6l, zq6k, YK, zq8t, zq55, zq0r, zq50, zq04, zq92, zq9b, zq0i, zq9e, zq9i, normF, zq6m, zq86, zq87, zq9s, zq6h, zq8x, YC, zq9p, t27n3, T27n3, zq9t, zq58, zq06, zq0w, zq5c, zq1p, zq1c, List.nil_append, List.cons_append, zq1b, zq17, zq5s, zq3o, eqSV, zq3p, zq89, t27n1, T27n1, zq8p, zq6p, zq8a, zq9x, zqa1, t27n2, T27n2, zq4w, zq6q, zq0e, zqa2, zq9u, popTo, zq6i, YP, t27n5, T27n5, zq6o])
  refine ⟨fun hlt => ?_, fun hge => ?_⟩
  ·have hlt : i < a.length := by have := of_decide_eq_true hlt; omega
   have cl : ∀ {C : Option Addr}, RowAt w C (cellsS a) → ∀ k v, (at' a i).cells[k]? = some v → CellAt ⟨w, w.heap.size, [], 26, []⟩ C ((i : Int).toNat * 3 + k) v := fun hC k v hk => syCell (rowE0c hC 26 []) hlt k v hk
   have sA : A.isSome = true := hA.isSome (j := i * 3) (by rw [cellsS_len]; omega)
   have sB : B.isSome = true := hB.isSome (j := i * 3) (by rw [cellsS_len]; omega)
   refine ⟨⟨by omega, by omega, sA⟩, _, cl hA 0 _ rfl, _, cl hA 1 _ rfl, _, cl hA 2 _ rfl, ⟨by omega, by omega, sB⟩, _, cl hB 0 _ rfl, _, cl hB 1 _ rfl, _, cl hB 2 _ rfl, ?_⟩
   refine ⟨fun hb => absurd hb (by simp), fun _ => ⟨((i + 1 : Nat) : Int), ArOk.to (by omega) (by omega) (by omega), lend_rule fun a W rep => again (i + 1) hlt (by omega) a W (rep.le (by (simp only [setn, List.nil_append, List.cons_append, leF, leH_nil, leH_cons, leF_nil, lk, scp, scpL, scpO, resF, resH, resO, resV, resVL, nth, Nat.reduceBEq, Nat.reduceLT, decide_true, decide_false, List.length, List.length_cons, List.length_nil, Nat.reduceAdd, Bool.and_self, Bool.and_true, and_true, true_and, numF] <;> try simp)) (by (simp only [setn, List.nil_append, List.cons_append, leF, leH_nil, leH_cons, leF_nil, lk, scp, scpL, scpO, resF, resH, resO, resV, resVL, nth, Nat.reduceBEq, Nat.reduceLT, decide_true, decide_false, List.length, List.length_cons, List.length_nil, Nat.reduceAdd, Bool.and_self, Bool.and_true, and_true, true_and, numF] <;> try simp)))⟩⟩
  ·exact ret_rule (vs := [.bool true]) r27 rfl rfl fun W hW => hR _ _ ⟨rfl, hW.fresh'⟩
theorem like23 (A B : Option Addr) (ca cb : Nat) (a : List Ck) (w : World) (hA : RowAt w A (cellsC a)) (hB : RowAt w B (cellsC a)) (hl : a.length ≤ 1000000) :
  CallsV Try.prog 23 [.slice A a.length ca, .slice B a.length cb] w fun v w' => v = .bool true ∧ Fresh w w' := by
 refine calls_go (keep := K23) (nt := 26) (svs := [.val (.slice A a.length ca), .val (.slice B a.length cb)]) Try.func23 x23 n23 (by simp) (by simp [IsL, Is]) fun R hR => ?_
 (refine Y_go 600 ?_; dsimp only [X23, numF, Nat.reduceAdd, zq9r, zq9q, Y_k, zq4u, zq8p, zq6p, YK, zq8t, zq9i, normF, zq6n, Nat.reduceBEq, zq6l, zq6k, zq6m, zq86, zq8a, zq87, zq9y, t23n7, T23n7, zq8o, zq55, zq0r, zq50, zq04, zq92, zq9b, zq0i, zq9d, zq9s, zq6h, zq8x, YC, t23n0, T23n0, zq89, zq9x, zq9p, t23n6, T23n6, zq6q, zq9t, zq9v])
 refine ⟨fun hb => absurd hb (by simp), fun _ => ?_⟩
 refine loop_go (α := Nat) (fun i => i ≤ a.length) (fun _ => ⟨w, w.heap.size, [], 26, []⟩)
  (fun i => { F := [(0, .val (.slice A a.length ca)), (1, .val (.slice B a.length cb)), (5, .val (.int .i64 i))], H := [] }) (fun i => a.length - i) (fun _ => rfl) ?start ?round
 case start =>
  intro a' W rep
  exact ⟨0, Nat.zero_le _, rep.le (by (simp only [setn, List.nil_append, List.cons_append, leF, leH_nil, leH_cons, leF_nil, lk, scp, scpL, scpO, resF, resH, resO, resV, resVL, nth, Nat.reduceBEq, Nat.reduceLT, decide_true, decide_false, List.length, List.length_cons, List.length_nil, Nat.reduceAdd, Bool.and_self, Bool.and_true, and_true, true_and, numF] <;> try simp)) (by (simp only [setn, List.nil_append, List.cons_append, leF, leH_nil, leH_cons, leF_nil, lk, scp, scpL, scpO, resF, resH, resO, resV, resVL, nth, Nat.reduceBEq, Nat.reduceLT, decide_true, decide_false, List.length, List.length_cons, List.length_nil, Nat.reduceAdd, Bool.and_self, Bool.and_true, and_true, true_and, numF] <;> try simp))⟩
 case round =>
  intro i hi I again
  have hi : i ≤ a.length := hi
  (refine Y_go 600 ?_; dsimp only [zq9y, t23n4, T23n4, zq9r, zq9q, Y_k, zq4u, zq8o, zq6n, Nat.reduceBEq, zq6l, zq6k, YK, zq8t, zq55, zq0r, zq50, zq04, zq92, zq9b, zq0i, zq9e, zq9i, normF, zq6m, zq86, zq87, zq9s, zq6h, zq8x, YC, zq9p, t23n3, T23n3, zq9t, zq58, zq06, zq0w, zq5c, zq1p, zq1c, List.nil_append, List.cons_append, zq1b, zq17, zq5s, zq3o, eqSV, zq3p, zq89, t23n1, T23n1, zq8p, zq6p, zq8a, zq9x, zqa1, t23n2, T23n2, zq4w, zq6q, zq0e, zqa2, zq9u, popTo, zq6i, YP, t23n5, T23n5, zq6o])
  refine ⟨fun hlt => ?_, fun hge => ?_⟩
  ·have hlt : i < a.length := by have := of_decide_eq_true hlt; omega
   have cl : ∀ {C : Option Addr}, RowAt w C (cellsC a) → ∀ k v, (ckV a[i])[k]? = some v → CellAt ⟨w, w.heap.size, [], 26, []⟩ C ((i : Int).toNat * 4 + k) v := fun hC k v hk => by
    rw [Int.toNat_natCast]
    exact (rowE0c hC 26 []).cell (by rw [cellsC_get a hlt (List.getElem?_eq_some_iff.1 hk).1]; exact hk)
   have sA : A.isSome = true := hA.isSome (j := i * 4) (by rw [cellsC_len]; omega)
   have sB : B.isSome = true := hB.isSome (j := i * 4) (by rw [cellsC_len]; omega)
   refine ⟨⟨by omega, by omega, sA⟩, _, cl hA 0 _ rfl, _, cl hA 1 _ rfl, _, cl hA 2 _ rfl, _, cl hA 3 _ rfl, ⟨by omega, by omega, sB⟩, _, cl hB 0 _ rfl, _, cl hB 1 _ rfl, _, cl hB 2 _ rfl, _, cl hB 3 _ rfl, ?_⟩
   refine ⟨fun hb => absurd hb (by simp), fun _ => ⟨((i + 1 : Nat) : Int), ArOk.to (by omega) (by omega) (by omega), lend_rule fun a W rep => again (i + 1) hlt (by omega) a W (rep.le (by (simp only [setn, List.nil_append, List.cons_append, leF, leH_nil, leH_cons, leF_nil, lk, scp, scpL, scpO, resF, resH, resO, resV, resVL, nth, Nat.reduceBEq, Nat.reduceLT, decide_true, decide_false, List.length, List.length_cons, List.length_nil, Nat.reduceAdd, Bool.and_self, Bool.and_true, and_true, true_and, numF] <;> try simp)) (by (simp only [setn, List.nil_append, List.cons_append, leF, leH_nil, leH_cons, leF_nil, lk, scp, scpL, scpO, resF, resH, resO, resV, resVL, nth, Nat.reduceBEq, Nat.reduceLT, decide_true, decide_false, List.length, List.length_cons, List.length_nil, Nat.reduceAdd, Bool.and_self, Bool.and_true, and_true, true_and, numF] <;> try simp)))⟩⟩
  ·exact ret_rule (vs := [.bool true]) r23 rfl rfl fun W hW => hR _ _ ⟨rfl, hW.fresh'⟩
theorem pairs24 (A B : Option Addr) (ca cb : Nat) (a : List (Nat × Nat)) (w : World) (hA : RowAt w A (cellsP a)) (hB : RowAt w B (cellsP a)) (hl : a.length ≤ 1000000) :
  CallsV Try.prog 24 [.slice A a.length ca, .slice B a.length cb] w fun v w' => v = .bool true ∧ Fresh w w' := by
 refine calls_go (keep := K24) (nt := 26) (svs := [.val (.slice A a.length ca), .val (.slice B a.length cb)]) Try.func24 x24 n24 (by simp) (by simp [IsL, Is]) fun R hR => ?_
 (refine Y_go 600 ?_; dsimp only [X24, numF, Nat.reduceAdd, zq9r, zq9q, Y_k, zq4u, zq8p, zq6p, YK, zq8t, zq9i, normF, zq6n, Nat.reduceBEq, zq6l, zq6k, zq6m, zq86, zq8a, zq87, zq9y, t24n7, T24n7, zq8o, zq55, zq0r, zq50, zq04, zq92, zq9b, zq0i, zq9d, zq9s, zq6h, zq8x, YC, t24n0, T24n0, zq89, zq9x, zq9p, t24n6, T24n6, zq6q, zq9t, zq9v])
 refine ⟨fun hb => absurd hb (by simp), fun _ => ?_⟩
 refine loop_go (α := Nat) (fun i => i ≤ a.length) (fun _ => ⟨w, w.heap.size, [], 26, []⟩)
  (fun i => { F := [(0, .val (.slice A a.length ca)), (1, .val (.slice B a.length cb)), (5, .val (.int .i64 i))], H := [] }) (fun i => a.length - i) (fun _ => rfl) ?start ?round
 case start =>
  intro a' W rep
  exact ⟨0, Nat.zero_le _, rep.le (by (simp only [setn, List.nil_append, List.cons_append, leF, leH_nil, leH_cons, leF_nil, lk, scp, scpL, scpO, resF, resH, resO, resV, resVL, nth, Nat.reduceBEq, Nat.reduceLT, decide_true, decide_false, List.length, List.length_cons, List.length_nil, Nat.reduceAdd, Bool.and_self, Bool.and_true, and_true, true_and, numF] <;> try simp)) (by (simp only [setn, List.nil_append, List.cons_append, leF, leH_nil, leH_cons, leF_nil, lk, scp, scpL, scpO, resF, resH, resO, resV, resVL, nth, Nat.reduceBEq, Nat.reduceLT, decide_true, decide_false, List.length, List.length_cons, List.length_nil, Nat.reduceAdd, Bool.and_self, Bool.and_true, and_true, true_and, numF] <;> try simp))⟩
 case round =>
  intro i hi I again
  have hi : i ≤ a.length := hi
  (refine Y_go 600 ?_; dsimp only [zq9y, t24n4, T24n4, zq9r, zq9q, Y_k, zq4u, zq8o, zq6n, Nat.reduceBEq, zq6l, zq6k, YK, zq8t, zq55, zq0r, zq50, zq04, zq92, zq9b, zq0i, zq9e, zq9i, normF, zq6m, zq86, zq87, zq9s, zq6h, zq8x, YC, zq9p, t24n3, T24n3, zq9t, zq58, zq06, zq0w, zq5c, zq1p, zq1c, List.nil_append, List.cons_append, zq1b, zq17, zq5s, zq3o, eqSV, zq3p, zq89, t24n1, T24n1, zq8p, zq6p, zq8a, zq9x, zqa1, t24n2, T24n2, zq4w, zq6q, zq0e, zqa2, zq9u, popTo, zq6i, YP, t24n5, T24n5, zq6o])
  refine ⟨fun hlt => ?_, fun hge => ?_⟩
  ·have hlt : i < a.length := by have := of_decide_eq_true hlt; omega
   have cl : ∀ {C : Option Addr}, RowAt w C (cellsP a) → ∀ k v, (pV a[i])[k]? = some v → CellAt ⟨w, w.heap.size, [], 26, []⟩ C ((i : Int).toNat * 2 + k) v := fun hC k v hk => by
    rw [Int.toNat_natCast]
    exact (rowE0c hC 26 []).cell (by rw [cellsP_get a hlt (List.getElem?_eq_some_iff.1 hk).1]; exact hk)
   have sA : A.isSome = true := hA.isSome (j := i * 2) (by rw [cellsP_len]; omega)
   have sB : B.isSome = true := hB.isSome (j := i * 2) (by rw [cellsP_len]; omega)
   refine ⟨⟨by omega, by omega, sA⟩, _, cl hA 0 _ rfl, _, cl hA 1 _ rfl, ⟨by omega, by omega, sB⟩, _, cl hB 0 _ rfl, _, cl hB 1 _ rfl, ?_⟩
   refine ⟨fun hb => absurd hb (by simp), fun _ => ⟨((i + 1 : Nat) : Int), ArOk.to (by omega) (by omega) (by omega), lend_rule fun a W rep => again (i + 1) hlt (by omega) a W (rep.le (by (simp only [setn, List.nil_append, List.cons_append, leF, leH_nil, leH_cons, leF_nil, lk, scp, scpL, scpO, resF, resH, resO, resV, resVL, nth, Nat.reduceBEq, Nat.reduceLT, decide_true, decide_false, List.length, List.length_cons, List.length_nil, Nat.reduceAdd, Bool.and_self, Bool.and_true, and_true, true_and, numF] <;> try simp)) (by (simp only [setn, List.nil_append, List.cons_append, leF, leH_nil, leH_cons, leF_nil, lk, scp, scpL, scpO, resF, resH, resO, resV, resVL, nth, Nat.reduceBEq, Nat.reduceLT, decide_true, decide_false, List.length, List.length_cons, List.length_nil, Nat.reduceAdd, Bool.and_self, Bool.and_true, and_true, true_and, numF] <;> try simp)))⟩⟩
  ·exact ret_rule (vs := [.bool true]) r24 rfl rfl fun W hW => hR _ _ ⟨rfl, hW.fresh'⟩
def tailS (l : List Sy) : List Sy := l ++ [⟨77, 0, 0⟩]
theorem sys_one (l : List Sy) : ∀ u ∈ cellsS l, u.oneCell' = true := by
 intro v hv
 obtain ⟨e, _, he⟩ := List.mem_flatMap.1 hv
 simp only [Sy.cells, List.mem_cons, List.not_mem_nil, or_false] at he
 rcases he with rfl | rfl | rfl <;> rfl
theorem twin18 (A : Option Addr) (c : Nat) (l : List Sy) (w : World) (hA : RowAt w A (cellsS l)) (hl : l.length ≤ 1000) :
  CallsV Try.prog 18 [.slice A l.length c] w fun v w' => ∃ (B : Option Addr) (bc : Nat), v = .slice B (l.length + 1) bc ∧ l.length + 1 ≤ bc ∧ RowAt w' B (cellsS (tailS l)) ∧ Fresh w w' := by
 refine calls_go (keep := K18) (nt := 11) (svs := [.val (.slice A l.length c)]) Try.func18 x18 n18 (by simp) (by simp [IsL, Is]) fun R hR => ?_
 (refine Y_go 600 ?_; dsimp only [X18, numF, Nat.reduceAdd, zq9r, zq9q, Y_k, zq4u, zq8p, zq6u, YK, zq8t, zq9i, normF, zq6n, Nat.reduceBEq, zq6l, zq6k, zq6m, zq86, zq87, zq9y, t18n2, T18n2, t18n1, T18n1, zq8o, zq5l, zq2v, zq2r, zq2o, zq2g, List.length_nil, List.nil_append, zq5g, List.map, zq6q, zq21, zq7u, zq73, zq0a, dropL, takeL, zq20, splice, setn, zq22, zq25, zq5h, repL, List.cons_append, zq23, Nat.reduceMul, zq7t, List.length_cons, zq8l, zq8m, zq8k, zq24, zq26, zq2w, nth, zq09, zq08, zq2s, zq9b, zq2n, zq2j, zq2k, denL, den, zq2l, zq2h, zq8f, t18n0, T18n0, zq9x])
 refine ⟨cellsS l, by rw [← cellsS_len]; exact hA.rd (sys_one l), ⟨by simp only [maxLen]; omega, by omega⟩, fun B1 c1 g => ⟨⟨by simp only [maxLen]; omega, by omega⟩, fun B2 c2 => ?_⟩⟩
 refine ret_rule (vs := [.slice B2 (l.length + 1) c2]) r18 rfl rfl fun W hW => hR _ _ ⟨B2, c2, rfl, ?_, ?_, hW.fresh'⟩
 ·exact (hW.cap (i := 0) rfl)
 ·have := hW.rowAt' (i := 0) (t := 29) (ver := 1) (sz := 3) (n := l.length + 1) (c := c2) rfl
  have e : cellsS (tailS l) = cellsS l ++ [Value.int .i64 77, .int .i64 0, .int .i64 0] := by unfold tailS; rw [cellsS_app]; rfl
  rw [e]; exact this
theorem race_ref {l : List Sy} (ho : okLs l) {i k : Nat} (hi : i < l.length) (hk : k < l.length) : raceB l i k = ((((at' l i).kind == 2 && decide ((at' l k).kind ≤ 2)) || ((at' l k).kind == 2 && decide ((at' l i).kind ≤ 2))) && ((at' l i).addr == (at' l k).addr && (!((at' l i).core == (at' l k).core) && !(hbB l i k)))) := by
 have h1 : hbB l i k = ahB (clks l l.length) i k := by
  rw [Bool.eq_iff_iff, ahB_eq ho hi hk]; unfold hbB; simp
 have k1 : 1 ≤ (at' l i).kind := by rw [at_get l hi]; exact (ho.2 _ (List.getElem_mem hi)).2.2.1
 have k2 : 1 ≤ (at' l k).kind := by rw [at_get l hk]; exact (ho.2 _ (List.getElem_mem hk)).2.2.1
 rw [h1]
 unfold raceB
 generalize ahB (clks l l.length) i k = x
 have e : (decide ((at' l i).kind ≤ 2) && decide ((at' l k).kind ≤ 2) && !((at' l i).kind == 1 && (at' l k).kind == 1)) = (((at' l i).kind == 2 && decide ((at' l k).kind ≤ 2)) || ((at' l k).kind == 2 && decide ((at' l i).kind ≤ 2))) := by
  rw [Bool.eq_iff_iff]
  simp only [Bool.and_eq_true, Bool.or_eq_true, decide_eq_true_eq, beq_iff_eq, Bool.not_eq_true', Bool.and_eq_false_iff, beq_eq_false_iff_ne]
  omega
 rw [← e]
 generalize decide ((at' l i).kind ≤ 2) = a1
 generalize decide ((at' l k).kind ≤ 2) = a2
 generalize ((at' l i).kind == 1 && (at' l k).kind == 1) = a3
 generalize ((at' l i).addr == (at' l k).addr) = a4
 generalize ((at' l i).core == (at' l k).core) = a5
 cases a1 <;> cases a2 <;> cases a3 <;> cases a4 <;> cases a5 <;> cases x <;> rfl
theorem refraces22 (A : Option Addr) (c : Nat) (l : List Sy) (w : World) (hA : RowAt w A (cellsS l)) (hl : l.length ≤ 1000) :
  CallsV Try.prog 22 [.slice A l.length c] w fun v w' => Fresh w w' ∧
   ((okLs l ∧ ∃ (B : Option Addr) (bc : Nat), v = .tuple #[.slice B (racesL l).length bc, .int .i64 0] ∧ RowAt w' B (cellsP (racesL l))) ∨ (¬ okLs l ∧ v = .tuple #[.slice none 0 0, .int .i64 260])) := by
 refine calls_go (keep := K22) (nt := 106) (svs := [.val (.slice A l.length c)]) Try.func22 x22 n22 (by simp) (by simp [IsL, Is]) fun R hR => ?_
 (refine Y_go 600 ?_; dsimp only [X22, numF, Nat.reduceAdd, zq9r, zq9q, Y_k, zq4u, zq8p, zq6u, YK, zq8t, zq6q, zq9i, normF, zq6n, Nat.reduceBEq, zq6l, zq6k, zq6m, zq86, zq87, zq9y, t22n15, T22n15, zq8o, zq9j])
 by_cases ho : okLs l
 ·refine call_val (R := fun v => v = .bool true) (vs := [.slice A l.length c]) rfl (fun W hW => (refmay51 A c l W (hA.keep hW.fresh') hl).mono fun v w' q => ⟨by rw [q.1, decide_eq_true ho], q.2⟩) fun v hv => ⟨.bt, by rw [hv]; simp [Is], ?_⟩
  (refine Y_go 600 ?_; dsimp only [zq8t, Y_k, zq4u, zq8o, zq6n, Nat.reduceBEq, zq6k, YK, zq9i, normF, zq6l, zq6m, zq86, zq89, zq87, zq9y, t22n14, T22n14, zq9r, zq9q, zq53, zq0m, zq8a, zq9s, zq6g, YC, zq9p, t22n13, T22n13, zq9j])
  refine call_base (vs := [.slice A l.length c]) rfl (R := fun W v w' => ∃ (gs : Nat → Nat) (B : Option Addr) (bc : Nat), v = .slice B l.length bc ∧ TabAt w' B gs (hbB l) l.length l.length ∧ Fresh W w') (fun W hW => refahead26 A c l W (hA.keep hW.fresh') ho.1 ho.2) (fun _ _ _ hr => by obtain ⟨_, _, _, _, _, hf⟩ := hr; exact hf) fun W v W1 hW hr ov => ?_
  obtain ⟨gs, T, tc, hv, hT, hf⟩ := hr
  refine ⟨.val (.slice T l.length tc), by rw [hv]; simp [Is], ?_⟩
  have hf1 : Fresh w W1 := hW.fresh'.tr hf
  have hA1 := hA.keep hf1
  simp only [putF]
  show G _ ⟨W1, W1.heap.size, [], 106, []⟩ _ _
  clear hv hf ov hW W
  (refine Y_go 600 ?_; dsimp only [Y_k, zq4u, zq8o, zq6n, Nat.reduceBEq, zq6k, YK, zq8t, zq9i, normF, zq6l, zq6m, zq86, zq8a, zq87, zq89, zq9y, t22n12, T22n12, zq9r, zq9q, zq8p, zq6u, t22n11, T22n11, zq6q, zq9t, zq9v])
  refine loop_go (α := OutI) (fun q => q.k ≤ l.length) (fun _ => ⟨W1, W1.heap.size, [], 106, []⟩)
   (fun q => { F := [(0, .val (.slice A l.length c)), (5, .val (.slice T l.length tc)), (6, .own 0 0), (7, .val (.int .i64 q.k))], H := [.own 58 0 2 q.B (racesTo l l.length q.k).length q.c (cellsP (racesTo l l.length q.k))] }) (fun q => l.length - q.k) (fun _ => rfl) ?start ?round
  case start =>
   intro a W rep
   exact ⟨⟨0, none, 0⟩, Nat.zero_le _, (rep.adopt 6 58 2 rfl).le (by (simp only [setn, List.nil_append, List.cons_append, leF, leH_nil, leH_cons, leF_nil, lk, scp, scpL, scpO, resF, resH, resO, resV, resVL, nth, Nat.reduceBEq, Nat.reduceLT, decide_true, decide_false, List.length, List.length_cons, List.length_nil, Nat.reduceAdd, Bool.and_self, Bool.and_true, and_true, true_and, numF] <;> try simp)) (by (simp only [setn, List.nil_append, List.cons_append, leF, leH_nil, leH_cons, leF_nil, lk, scp, scpL, scpO, resF, resH, resO, resV, resVL, nth, Nat.reduceBEq, Nat.reduceLT, decide_true, decide_false, List.length, List.length_cons, List.length_nil, Nat.reduceAdd, Bool.and_self, Bool.and_true, and_true, true_and, numF] <;> try simp); exact ⟨rfl, rfl⟩)⟩
  case round =>
   rintro ⟨i, B, bc⟩ hi I again
   have hi : i ≤ l.length := hi
   by_cases hlt : i < l.length
   ·have h4 := ho.1
    have hrt := racesTo_len l l.length i
    have hin : i * l.length ≤ 400 * 400 := Nat.mul_le_mul (by omega) h4
    (refine Y_go 600 ?_; dsimp only [zq9y, t22n9, T22n9, zq9r, zq9q, Y_k, zq4u, zq8o, zq6n, Nat.reduceBEq, zq6l, zq6k, YK, zq8t, zq55, zq0r, zq50, zq04, zq92, zq9b, zq0i, zq9e, zq9i, normF, zq6m, zq86, zq87, zq8f, zq9s, zq6h, zq8x, YC, zq9p, t22n8, T22n8, zq9t, zq4w, zq8p, zq6q, zq0e, zq89, zq9v, zq9u, popTo, zq6i, YP, t22n10, T22n10, zq8a, zq9x])
    refine ⟨fun _ => ?_, fun q => absurd (of_decide_eq_false q) (by omega)⟩
    refine ⟨((i + 1 : Nat) : Int), ArOk.to (by omega) (by omega) (by omega), ?_⟩
    refine loop_go (α := OutI) (fun q => i + 1 ≤ q.k ∧ q.k ≤ l.length) (fun _ => ⟨W1, W1.heap.size, [], 106, []⟩)
     (fun q => { F := [(0, .val (.slice A l.length c)), (5, .val (.slice T l.length tc)), (6, .own 0 0), (7, .val (.int .i64 i)), (8, .val (.int .i64 q.k))], H := [.own 58 0 2 q.B (racesTo l l.length i ++ rowR l i q.k).length q.c (cellsP (racesTo l l.length i ++ rowR l i q.k))] }) (fun q => l.length - q.k) (fun _ => rfl) ?start2 ?round2
    case start2 =>
     intro a W rep
     refine ⟨⟨i + 1, B, bc⟩, ⟨Nat.le_refl _, hlt⟩, ?_⟩
     simp only [rowR_self l i (i + 1) (Nat.le_refl _), List.append_nil]
     exact rep.le (by (simp only [setn, List.nil_append, List.cons_append, leF, leH_nil, leH_cons, leF_nil, lk, scp, scpL, scpO, resF, resH, resO, resV, resVL, nth, Nat.reduceBEq, Nat.reduceLT, decide_true, decide_false, List.length, List.length_cons, List.length_nil, Nat.reduceAdd, Bool.and_self, Bool.and_true, and_true, true_and, numF] <;> try simp)) (by (simp only [setn, List.nil_append, List.cons_append, leF, leH_nil, leH_cons, leF_nil, lk, scp, scpL, scpO, resF, resH, resO, resV, resVL, nth, Nat.reduceBEq, Nat.reduceLT, decide_true, decide_false, List.length, List.length_cons, List.length_nil, Nat.reduceAdd, Bool.and_self, Bool.and_true, and_true, true_and, numF] <;> try simp))
    case round2 =>
     rintro ⟨k, B2, bc2⟩ ⟨hik, hk⟩ I2 again2
     simp only at hik hk ⊢
     by_cases hkn : k < l.length
     ·have sA : A.isSome = true := hA1.isSome (j := i * 3) (by rw [cellsS_len]; omega)
      have bi : 0 ≤ (i : Int) ∧ (i : Int) < (l.length : Int) ∧ A.isSome = true := ⟨by omega, by omega, sA⟩
      have bk : 0 ≤ (k : Int) ∧ (k : Int) < (l.length : Int) ∧ A.isSome = true := ⟨by omega, by omega, sA⟩
      have ci := fun m v hk => syCell (l := l) (rowE0c hA1 106 []) hlt m v hk
      have ck := fun m v hk => syCell (l := l) (rowE0c hA1 106 []) hkn m v hk
      have bT : 0 ≤ (i : Int) ∧ (i : Int) < (l.length : Int) ∧ T.isSome = true := ⟨by omega, by omega, hT.1.isSome (j := i) (by rw [tabV_len]; omega)⟩
      have bk2 : 0 ≤ (k : Int) ∧ (k : Int) < (l.length : Int) ∧ (some (⟨gs i, 0, none⟩ : Addr)).isSome = true := ⟨by omega, by omega, rfl⟩
      have ct : CellAt ⟨W1, W1.heap.size, [], 106, []⟩ T ((i : Int).toNat * 1) (.slice (some ⟨gs i, 0, none⟩) l.length l.length) := (rowE0c hT.1 106 []).cell (by rw [Int.toNat_natCast, Nat.mul_one]; exact tabV_get (by omega))
      have cb : CellAt ⟨W1, W1.heap.size, [], 106, []⟩ (some ⟨gs i, 0, none⟩) ((k : Int).toNat * 1) (.bool (hbB l i k)) := (rowE0c (hT.2 i (by omega)) 106 []).cell (by rw [Int.toNat_natCast, Nat.mul_one]; exact rwV_get _ (by omega))
      have add1 : ArOk .add .i64 (k : Int) 1 ((k + 1 : Nat) : Int) := ArOk.to (by omega) (by omega) (by omega)
      have hrr := rowR_len l i k
      have hL : (racesTo l l.length i ++ rowR l i k).length ≤ 160400 := by rw [List.length_append]; omega
      have hrf := race_ref ho hlt hkn
      have miss : raceB l i k = false → ∀ (a : Act) (W : World), Rep ⟨W1, W1.heap.size, [], 106, []⟩ { F := [(0, .val (.slice A l.length c)), (5, .val (.slice T l.length tc)), (6, .own 0 0), (7, .val (.int .i64 i)), (8, .val (.int .i64 ((k + 1 : Nat) : Int)))], H := [.own 58 0 2 B2 (racesTo l l.length i ++ rowR l i k).length bc2 (cellsP (racesTo l l.length i ++ rowR l i k))] } a W → I2 a W := fun h a W rep => again2 ⟨k + 1, B2, bc2⟩ ⟨by show i + 1 ≤ k + 1; omega, by show k + 1 ≤ l.length; omega⟩ (by simp only; omega) a W (by
       have e : rowR l i (k + 1) = rowR l i k := by rw [rowR_succ, h]; simp
       simp only [e]; exact rep)
      have hit : raceB l i k = true → ∀ (B3 : Option Addr) (bc3 : Nat) (a : Act) (W : World), Rep ⟨W1, W1.heap.size, [], 106, []⟩ { F := [(0, .val (.slice A l.length c)), (5, .val (.slice T l.length tc)), (6, .own 0 0), (7, .val (.int .i64 i)), (8, .val (.int .i64 ((k + 1 : Nat) : Int)))], H := [.own 58 0 2 B3 ((racesTo l l.length i ++ rowR l i k).length + 1) bc3 (cellsP (racesTo l l.length i ++ rowR l i k) ++ [.int .i64 i, .int .i64 k])] } a W → I2 a W := fun h B3 bc3 a W rep => again2 ⟨k + 1, B3, bc3⟩ ⟨by show i + 1 ≤ k + 1; omega, by show k + 1 ≤ l.length; omega⟩ (by simp only; omega) a W (by
       have e : racesTo l l.length i ++ rowR l i (k + 1) = (racesTo l l.length i ++ rowR l i k) ++ [(i, k)] := by
        rw [rowR_succ, h, if_pos (by simp; omega), List.append_assoc]
       simp only [e]
       rw [cellsP_app, List.length_append]
       exact rep)
      have bnd : (racesTo l l.length i ++ rowR l i k).length + 1 ≤ maxLen ∧ ((racesTo l l.length i ++ rowR l i k).length + 1) * 16 ≤ 140737488355328 := ⟨by simp only [maxLen]; omega, by omega⟩
      (refine Y_go 600 ?_; dsimp only [zq9y, t22n6, T22n6, zq9r, zq9q, Y_k, zq4u, zq8o, zq6n, Nat.reduceBEq, zq6l, zq6k, YK, zq8t, zq55, zq0r, zq50, zq04, zq92, zq9b, zq0i, zq9e, zq9i, normF, zq6m, zq86, zq87, zq8f, zq9s, zq6h, zq8x, YC, zq9p, t22n5, T22n5, zq9t, zq58, zq06, zq0w, zq5a, zq16, zq5c, zq1p, zq1c, List.nil_append, zq1b, zq18, zq8p, zq6q, zq9c, Y_gk, zq6d, YR, zq69, zq9f, zq4v, zq6p, zq0b, zq89, t22n3, T22n3, t22n2, T22n2, zq6e, YS, zq6o, Nat.add_zero, zq9d, zq1g, zq1d, zq53, zq0o, t22n1, T22n1, zq5g, List.map, zq21, zq7u, zq73, zq0a, dropL, takeL, zq20, splice, setn, zq22, zq25, zq5h, repL, List.cons_append, zq23, Nat.reduceMul, zq7t, List.length_cons, List.length_nil, Nat.reduceAdd, zq8l, zq8m, zq8k, zq24, zq26, zq5l, zq2w, nth, zq09, zq08, zq2s, zq2r, zq2n, zq2j, zq2k, denL, den, zq2l, zq2h, zqa1, t22n4, T22n4, zq4w, zq0e, zqa2, zq8a, zq6b, zq0c, zq6g, zq6c, zq9u, popTo, zq6i, YP, t22n7, T22n7])
      refine ⟨fun _ => ?_, fun q => absurd (of_decide_eq_false q) (by omega)⟩
      repeat' first
       | refine ⟨bi, sA, _, ci 0 _ rfl, ?_⟩
       | refine ⟨bi, sA, _, ci 1 _ rfl, ?_⟩
       | refine ⟨bi, sA, _, ci 2 _ rfl, ?_⟩
       | refine ⟨bk, sA, _, ck 0 _ rfl, ?_⟩
       | refine ⟨bk, sA, _, ck 1 _ rfl, ?_⟩
       | refine ⟨bk, sA, _, ck 2 _ rfl, ?_⟩
       | refine ⟨bT, _, _, _, ct, bk2, _, cb, ?_⟩
       | refine ⟨_, add1, lend_rule fun a W rep => miss ?_ a W (rep.le (by (simp only [setn, List.nil_append, List.cons_append, leF, leH_nil, leH_cons, leF_nil, lk, scp, scpL, scpO, resF, resH, resO, resV, resVL, nth, Nat.reduceBEq, Nat.reduceLT, decide_true, decide_false, List.length, List.length_cons, List.length_nil, Nat.reduceAdd, Bool.and_self, Bool.and_true, and_true, true_and, numF] <;> try simp)) (by (simp only [setn, List.nil_append, List.cons_append, leF, leH_nil, leH_cons, leF_nil, lk, scp, scpL, scpO, resF, resH, resO, resV, resVL, nth, Nat.reduceBEq, Nat.reduceLT, decide_true, decide_false, List.length, List.length_cons, List.length_nil, Nat.reduceAdd, Bool.and_self, Bool.and_true, and_true, true_and, numF] <;> try simp)))⟩
       | refine fun g => ⟨bnd, fun B3 bc3 => ⟨_, add1, lend_rule fun a W rep => hit ?_ B3 bc3 a W (rep.res.le (by (simp only [setn, List.nil_append, List.cons_append, leF, leH_nil, leH_cons, leF_nil, lk, scp, scpL, scpO, resF, resH, resO, resV, resVL, nth, Nat.reduceBEq, Nat.reduceLT, decide_true, decide_false, List.length, List.length_cons, List.length_nil, Nat.reduceAdd, Bool.and_self, Bool.and_true, and_true, true_and, numF] <;> try simp)) (by (simp only [setn, List.nil_append, List.cons_append, leF, leH_nil, leH_cons, leF_nil, lk, scp, scpL, scpO, resF, resH, resO, resV, resVL, nth, Nat.reduceBEq, Nat.reduceLT, decide_true, decide_false, List.length, List.length_cons, List.length_nil, Nat.reduceAdd, Bool.and_self, Bool.and_true, and_true, true_and, numF] <;> try simp)))⟩⟩
       | refine ⟨fun q => ?_, fun q => ?_⟩
       | fail
      all_goals
       clear hit miss ci ck ct cb bnd again2 again hT hA1 hA hR
       rw [hrf]
       simp_all
      all_goals (intros; exfalso; omega)
     ·(refine Y_go 600 ?_; dsimp only [zq9y, t22n6, T22n6, zq9r, zq9q, Y_k, zq4u, zq8o, zq6n, Nat.reduceBEq, zq6l, zq6k, YK, zq8t, zq55, zq0r, zq50, zq04, zq92, zq9b, zq0i, zq9e, zq9i, normF, zq6m, zq86, zq87, zq8f, zq9s, zq6h, zq8x, YC, zq9p, t22n5, T22n5, zq9t, zq58, zq06, zq0w, zq5a, zq16, zq5c, zq1p, zq1c, List.nil_append, zq1b, zq18, zq8p, zq6q, zq9c, Y_gk, zq6d, YR, zq69, zq9f, zq4v, zq6p, zq0b, zq89, t22n3, T22n3, t22n2, T22n2, zq6e, YS, zq6o, Nat.add_zero, zq9d, zq1g, zq1d, zq53, zq0o, t22n1, T22n1, zq5g, List.map, zq21, zq7u, zq73, zq0a, dropL, takeL, zq20, splice, setn, zq22, zq25, zq5h, repL, List.cons_append, zq23, Nat.reduceMul, zq7t, List.length_cons, List.length_nil, Nat.reduceAdd, zq8l, zq8m, zq8k, zq24, zq26, zq5l, zq2w, nth, zq09, zq08, zq2s, zq2r, zq2n, zq2j, zq2k, denL, den, zq2l, zq2h, zqa1, t22n4, T22n4, zq4w, zq0e, zqa2, zq8a, zq6b, zq0c, zq6g, zq6c, zq9u, popTo, zq6i, YP, t22n7, T22n7])
      refine ⟨fun q => absurd (of_decide_eq_true q) (by omega), fun _ => ?_⟩
      have hke : k = l.length := by omega
      subst hke
      refine ⟨((i + 1 : Nat) : Int), ArOk.to (by omega) (by omega) (by omega), lend_rule fun a W rep => again ⟨i + 1, B2, bc2⟩ hlt (by simp only; omega) a W ?_⟩
      simp only [racesTo_succ]
      exact rep.le (by (simp only [setn, List.nil_append, List.cons_append, leF, leH_nil, leH_cons, leF_nil, lk, scp, scpL, scpO, resF, resH, resO, resV, resVL, nth, Nat.reduceBEq, Nat.reduceLT, decide_true, decide_false, List.length, List.length_cons, List.length_nil, Nat.reduceAdd, Bool.and_self, Bool.and_true, and_true, true_and, numF] <;> try simp)) (by (simp only [setn, List.nil_append, List.cons_append, leF, leH_nil, leH_cons, leF_nil, lk, scp, scpL, scpO, resF, resH, resO, resV, resVL, nth, Nat.reduceBEq, Nat.reduceLT, decide_true, decide_false, List.length, List.length_cons, List.length_nil, Nat.reduceAdd, Bool.and_self, Bool.and_true, and_true, true_and, numF] <;> try simp))
   ·(refine Y_go 600 ?_; dsimp only [zq9y, t22n9, T22n9, zq9r, zq9q, Y_k, zq4u, zq8o, zq6n, Nat.reduceBEq, zq6l, zq6k, YK, zq8t, zq55, zq0r, zq50, zq04, zq92, zq9b, zq0i, zq9e, zq9i, normF, zq6m, zq86, zq87, zq8f, zq9s, zq6h, zq8x, YC, zq9p, t22n8, T22n8, zq9t, zq4w, zq8p, zq6q, zq0e, zq89, zq9v, zq9u, popTo, zq6i, YP, t22n10, T22n10, zq8a, zq9x])
    refine ⟨fun q => absurd (of_decide_eq_true q) (by omega), fun _ => ?_⟩
    have hke : i = l.length := by omega
    subst hke
    exact ret_rule (vs := [.slice B (racesL l).length bc, .int .i64 0]) r22 rfl rfl fun W hW => hR _ _ ⟨hf1.tr hW.fresh', .inl ⟨ho, B, bc, rfl, hW.rowAt (i := 0) rfl⟩⟩
 ·refine call_val (R := fun v => v = .bool false) (vs := [.slice A l.length c]) rfl (fun W hW => (refmay51 A c l W (hA.keep hW.fresh') hl).mono fun v w' q => ⟨by rw [q.1, decide_eq_false ho], q.2⟩) fun v hv => ⟨.bf, by rw [hv]; simp [Is], ?_⟩
  (refine Y_go 600 ?_; dsimp only [zq8t, Y_k, zq4u, zq8o, zq6n, Nat.reduceBEq, zq6k, YK, zq9i, normF, zq6l, zq6m, zq86, zq8a, zq87, zq9y, t22n14, T22n14, zq9r, zq9q, zq53, zq0n, zq89, zq9s, zq6f, YC, t22n0, T22n0, zq8p, zq6u, zq6q, zq9x])
  exact ret_rule (vs := [.slice none 0 0, .int .i64 260]) r22 rfl rfl fun W hW => hR _ _ ⟨hW.fresh', .inr ⟨ho, rfl⟩⟩
end Go.Proofs.Ytnedgfkgmdoahaa
