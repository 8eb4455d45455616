/- shuntref26.Of, Same. -/
import Derived.Test.YtnedgfkgmdoahaaHsW7
import Derived.Test.YtnedgfkgmdoahaaHsCodeO
set_option linter.unusedSimpArgs false
set_option linter.unusedVariables false
set_option linter.unnecessarySimpa false
namespace Go.Proofs.Ytnedgfkgmdoahaa
open Go Go.Sx Go.Hs Go.Clk
set_option maxRecDepth 100000
theorem of30 (A : Option Addr) (c : Nat) (h : List Ev) (w : World) (hA : RowAt w A (cellsE h)) (hl : h.length ≤ 1000) :
  CallsV Try.prog 30 [.slice A h.length c] w fun v w' => (mayL h = false ∧ v = .tuple #[.slice none 0 0, .int .i64 120] ∧ Fresh w w') ∨
   (mayL h = true) ∧ (∃ (B : Option Addr) (bc : Nat), v = .tuple #[.slice B (ofL h).length bc, .int .i64 0] ∧ World.ownsB w' w.heap.size 29 3 (.slice B (ofL h).length bc) (ofL h).length (cellsS (ofL h)) ∧ Fresh w w') := by
 refine calls_go (keep := K30) (nt := 69) (svs := [.val (.slice A h.length c)]) Try.func30 x30 n30 (by simp) (by simp [IsL, Is]) fun R hR => ?_
 (refine Y_go 600 ?_; dsimp only [X30, numF, Nat.reduceAdd, zq9r, zq9q, Y_k, zq4u, zq8p, zq6u, YK, zq8t, zq6q, zq9i, normF, zq6n, Nat.reduceBEq, zq6l, zq6k, zq6m, zq86, zq87, zq9y, t30n19, T30n19, zq8o, zq9j])
 refine call_val (R := fun v => v = .bool (mayL h)) (vs := [.slice A h.length c]) rfl (fun W hW => may34 A c h W (hA.keep hW.fresh') (by omega)) fun v hv => ⟨bsv (mayL h), by rw [hv]; cases mayL h <;> simp [Is, bsv], ?_⟩
 cases hm : mayL h with
 | false =>
  simp only [bsv]
  (refine Y_go 600 ?_; dsimp only [zq8t, Y_k, zq4u, zq8o, zq6n, Nat.reduceBEq, zq6k, YK, zq9i, normF, zq6l, zq6m, zq86, zq8a, zq87, zq9y, t30n18, T30n18, zq9r, zq9q, zq53, zq0n, zq89, zq9s, zq6f, YC, t30n0, T30n0, zq8p, zq6u, zq6q, zq9x])
  exact ret_rule (vs := [.slice none 0 0, .int .i64 120]) r30 rfl rfl fun W hW => hR _ _ (.inl ⟨hm, rfl, hW.fresh'⟩)
 | true =>
 simp only [bsv]
 (refine Y_go 600 ?_; dsimp only [zq8t, Y_k, zq4u, zq8o, zq6n, Nat.reduceBEq, zq6k, YK, zq9i, normF, zq6l, zq6m, zq86, zq89, zq87, zq9y, t30n18, T30n18, zq9r, zq9q, zq53, zq0m, zq8a, zq9s, zq6g, YC, zq9p, t30n17, T30n17, zq8p, zq6u, t30n16, T30n16, zq6q, zq9t, zq9v])
 refine loop_go (α := Nat × Option Addr × Nat) (fun q => q.1 ≤ h.length) (fun _ => ⟨w, w.heap.size, [], 69, []⟩)
  (fun q => { F := [(0, .val (.slice A h.length c)), (5, .own 0 0), (6, .val (.int .i64 q.1))], H := [.own 29 0 3 q.2.1 (ofTo h q.1).length q.2.2 (cellsS (ofTo h q.1))] }) (fun q => h.length - q.1) (fun _ => rfl) ?start ?round
 case start =>
  intro a W rep
  exact ⟨(0, none, 0), Nat.zero_le _, (rep.adopt 5 29 3 rfl).le (by (simp only [setn, List.nil_append, List.cons_append, leF, leH_nil, leH_cons, leF_nil, lk, scp, scpL, scpO, resF, resH, resO, resV, resVL, nth, Nat.reduceBEq, Nat.reduceLT, decide_true, decide_false, List.length, List.length_cons, List.length_nil, Nat.reduceAdd, Bool.and_self, Bool.and_true, and_true, true_and, numF] <;> try simp)) (by (simp only [setn, List.nil_append, List.cons_append, leF, leH_nil, leH_cons, leF_nil, lk, scp, scpL, scpO, resF, resH, resO, resV, resVL, nth, Nat.reduceBEq, Nat.reduceLT, decide_true, decide_false, List.length, List.length_cons, List.length_nil, Nat.reduceAdd, Bool.and_self, Bool.and_true, and_true, true_and, numF] <;> try simp); exact ⟨rfl, rfl⟩)⟩
 case round =>
  rintro ⟨i, oA, oc⟩ hi I again
  have hi : i ≤ h.length := hi
  (refine Y_go 600 ?_; dsimp only [zq9y, t30n14, T30n14, zq9r, zq9q, Y_k, zq4u, zq8o, zq6n, Nat.reduceBEq, zq6l, zq6k, YK, zq8t, zq55, zq0r, zq50, zq04, zq92, zq9b, zq0i, zq9e, zq9i, normF, zq6m, zq86, zq87, zq8f, zq9s, zq6h, zq8x, YC, zq9p, t30n13, T30n13, zq9t, zq58, zq06, zq0w, zq5a, zq16, zq5c, zq1p, zq1c, List.nil_append, zq1b, zq18, zq89, t30n11, T30n11, Nat.add_zero, t30n10, T30n10, zq8p, zq6q, zq9c, t30n1, T30n1, zq5g, List.map, zq21, zq7u, zq73, zq0a, dropL, takeL, zq20, splice, setn, zq22, zq25, zq5h, repL, List.cons_append, zq23, Nat.reduceMul, zq7t, List.length_cons, List.length_nil, Nat.reduceAdd, zq8l, zq8m, zq8k, zq24, zq26, zq5l, zq2w, nth, zq09, zq08, zq2s, zq2r, zq2n, zq2j, zq2k, denL, den, zq2l, zq2h, zqa1, t30n12, T30n12, zq4w, zq0e, zqa2, t30n9, T30n9, zq8a, t30n2, T30n2, t30n8, T30n8, t30n3, T30n3, zq6f, t30n4, T30n4, t30n7, T30n7, t30n5, T30n5, t30n6, T30n6, zq9u, popTo, zq6i, YP, t30n15, T30n15, zq9x])
  refine ⟨fun hlt => ?_, fun hge => ?_⟩
  ·have hlt : i < h.length := by have := of_decide_eq_true hlt; omega
   have hsome : A.isSome = true := hA.isSome (j := i * 9) (by rw [cellsE_len]; omega)
   have c0 : CellAt ⟨w, w.heap.size, [], 69, []⟩ A ((i : Int).toNat * 9) _ := evCell (rowE0 hA 69 []) hlt 0 _ rfl
   have c2 : CellAt ⟨w, w.heap.size, [], 69, []⟩ A ((i : Int).toNat * 9 + 2) _ := evCell (rowE0 hA 69 []) hlt 2 _ rfl
   have c6 : CellAt ⟨w, w.heap.size, [], 69, []⟩ A ((i : Int).toNat * 9 + 6) _ := evCell (rowE0 hA 69 []) hlt 6 _ rfl
   have hadd : ArOk .add .i64 (i : Int) 1 ((i + 1 : Nat) : Int) := ArOk.to (by omega) (by omega) (by omega)
   have hlen := ofTo_len h i
   have hb : 0 ≤ (i : Int) ∧ (i : Int) < (h.length : Int) ∧ A.isSome = true := ⟨by omega, by omega, hsome⟩
   have hbd : (ofTo h i).length + 1 ≤ maxLen ∧ ((ofTo h i).length + 1) * 24 ≤ 140737488355328 := ⟨by simp only [maxLen]; omega, by omega⟩
   have hit : ∀ (y : Sy), ofE (evA h i) = [y] → ∀ (A5 : Option Addr) (c5 : Nat) (a : Act) (W : World), Rep ⟨w, w.heap.size, [], 69, []⟩ { F := [(0, .val (.slice A h.length c)), (5, .own 0 0), (6, .val (.int .i64 ((i + 1 : Nat) : Int)))], H := [.own 29 0 3 A5 ((ofTo h i).length + 1) c5 (cellsS (ofTo h i) ++ [.int .i64 y.core, .int .i64 y.kind, .int .i64 y.addr])] } a W → I a W := by
    intro y hy A5 c5 a W rep
    have e1 : ofTo h (i + 1) = ofTo h i ++ [y] := by show ofTo h i ++ ofE (evA h i) = _; rw [hy]
    refine again (i + 1, A5, c5) hlt (by simp only; omega) a W ?_
    simp only [e1, cellsS_app, List.length_append, List.length_cons, List.length_nil]
    exact rep
   have hmis : ofE (evA h i) = [] → ∀ (a : Act) (W : World), Rep ⟨w, w.heap.size, [], 69, []⟩ { F := [(0, .val (.slice A h.length c)), (5, .own 0 0), (6, .val (.int .i64 ((i + 1 : Nat) : Int)))], H := [.own 29 0 3 oA (ofTo h i).length oc (cellsS (ofTo h i))] } a W → I a W := by
    intro hy a W rep
    have e1 : ofTo h (i + 1) = ofTo h i := by show ofTo h i ++ ofE (evA h i) = _; rw [hy, List.append_nil]
    refine again (i + 1, oA, oc) hlt (by simp only; omega) a W ?_
    simp only [e1]
    exact rep
   generalize evA h i = e at *
   refine ⟨hb, hsome, _, c2, hb, hsome, _, c0, ?_⟩
   refine ⟨fun h1 => fun g => ⟨hbd, fun A5 c5 => ⟨_, hadd, lend_rule fun a W rep => hit ⟨e.core, 4, 0⟩ (by unfold ofE; rw [if_pos (by simpa using h1)]) A5 c5 a W (rep.res.le (by (simp only [setn, List.nil_append, List.cons_append, leF, leH_nil, leH_cons, leF_nil, lk, scp, scpL, scpO, resF, resH, resO, resV, resVL, nth, Nat.reduceBEq, Nat.reduceLT, decide_true, decide_false, List.length, List.length_cons, List.length_nil, Nat.reduceAdd, Bool.and_self, Bool.and_true, and_true, true_and, numF] <;> try simp)) (by (simp only [setn, List.nil_append, List.cons_append, leF, leH_nil, leH_cons, leF_nil, lk, scp, scpL, scpO, resF, resH, resO, resV, resVL, nth, Nat.reduceBEq, Nat.reduceLT, decide_true, decide_false, List.length, List.length_cons, List.length_nil, Nat.reduceAdd, Bool.and_self, Bool.and_true, and_true, true_and, numF] <;> try simp)))⟩⟩, fun h1 => ⟨fun h5 => fun g => ⟨hbd, fun A5 c5 => ⟨_, hadd, lend_rule fun a W rep => hit ⟨e.core, 3, 0⟩ (by unfold ofE; rw [if_neg (by simpa using h1), if_pos (by simpa using h5)]) A5 c5 a W (rep.res.le (by (simp only [setn, List.nil_append, List.cons_append, leF, leH_nil, leH_cons, leF_nil, lk, scp, scpL, scpO, resF, resH, resO, resV, resVL, nth, Nat.reduceBEq, Nat.reduceLT, decide_true, decide_false, List.length, List.length_cons, List.length_nil, Nat.reduceAdd, Bool.and_self, Bool.and_true, and_true, true_and, numF] <;> try simp)) (by (simp only [setn, List.nil_append, List.cons_append, leF, leH_nil, leH_cons, leF_nil, lk, scp, scpL, scpO, resF, resH, resO, resV, resVL, nth, Nat.reduceBEq, Nat.reduceLT, decide_true, decide_false, List.length, List.length_cons, List.length_nil, Nat.reduceAdd, Bool.and_self, Bool.and_true, and_true, true_and, numF] <;> try simp)))⟩⟩, fun h5 => ⟨fun h2 => ⟨hb, hsome, _, c6, fun g => ⟨hbd, fun A5 c5 => ⟨_, hadd, lend_rule fun a W rep => hit ⟨e.core, 1, e.addr⟩ (by unfold ofE; rw [if_neg (by simpa using h1), if_neg (by simpa using h5), if_pos (by simp at h2; omega)]) A5 c5 a W (rep.res.le (by (simp only [setn, List.nil_append, List.cons_append, leF, leH_nil, leH_cons, leF_nil, lk, scp, scpL, scpO, resF, resH, resO, resV, resVL, nth, Nat.reduceBEq, Nat.reduceLT, decide_true, decide_false, List.length, List.length_cons, List.length_nil, Nat.reduceAdd, Bool.and_self, Bool.and_true, and_true, true_and, numF] <;> try simp)) (by (simp only [setn, List.nil_append, List.cons_append, leF, leH_nil, leH_cons, leF_nil, lk, scp, scpL, scpO, resF, resH, resO, resV, resVL, nth, Nat.reduceBEq, Nat.reduceLT, decide_true, decide_false, List.length, List.length_cons, List.length_nil, Nat.reduceAdd, Bool.and_self, Bool.and_true, and_true, true_and, numF] <;> try simp)))⟩⟩⟩, fun h2 => ⟨fun h7 => ⟨hb, hsome, _, c6, fun g => ⟨hbd, fun A5 c5 => ⟨_, hadd, lend_rule fun a W rep => hit ⟨e.core, 1, e.addr⟩ (by unfold ofE; rw [if_neg (by simpa using h1), if_neg (by simpa using h5), if_pos (by simp at h7; omega)]) A5 c5 a W (rep.res.le (by (simp only [setn, List.nil_append, List.cons_append, leF, leH_nil, leH_cons, leF_nil, lk, scp, scpL, scpO, resF, resH, resO, resV, resVL, nth, Nat.reduceBEq, Nat.reduceLT, decide_true, decide_false, List.length, List.length_cons, List.length_nil, Nat.reduceAdd, Bool.and_self, Bool.and_true, and_true, true_and, numF] <;> try simp)) (by (simp only [setn, List.nil_append, List.cons_append, leF, leH_nil, leH_cons, leF_nil, lk, scp, scpL, scpO, resF, resH, resO, resV, resVL, nth, Nat.reduceBEq, Nat.reduceLT, decide_true, decide_false, List.length, List.length_cons, List.length_nil, Nat.reduceAdd, Bool.and_self, Bool.and_true, and_true, true_and, numF] <;> try simp)))⟩⟩⟩, fun h7 => ⟨fun h3 => ⟨hb, hsome, _, c6, fun g => ⟨hbd, fun A5 c5 => ⟨_, hadd, lend_rule fun a W rep => hit ⟨e.core, 2, e.addr⟩ (by unfold ofE; rw [if_neg (by simpa using h1), if_neg (by simpa using h5), if_neg (by simp at h2 h7; omega), if_pos (by simp at h3; omega)]) A5 c5 a W (rep.res.le (by (simp only [setn, List.nil_append, List.cons_append, leF, leH_nil, leH_cons, leF_nil, lk, scp, scpL, scpO, resF, resH, resO, resV, resVL, nth, Nat.reduceBEq, Nat.reduceLT, decide_true, decide_false, List.length, List.length_cons, List.length_nil, Nat.reduceAdd, Bool.and_self, Bool.and_true, and_true, true_and, numF] <;> try simp)) (by (simp only [setn, List.nil_append, List.cons_append, leF, leH_nil, leH_cons, leF_nil, lk, scp, scpL, scpO, resF, resH, resO, resV, resVL, nth, Nat.reduceBEq, Nat.reduceLT, decide_true, decide_false, List.length, List.length_cons, List.length_nil, Nat.reduceAdd, Bool.and_self, Bool.and_true, and_true, true_and, numF] <;> try simp)))⟩⟩⟩, fun h3 => ⟨fun h8 => ⟨hb, hsome, _, c6, fun g => ⟨hbd, fun A5 c5 => ⟨_, hadd, lend_rule fun a W rep => hit ⟨e.core, 2, e.addr⟩ (by unfold ofE; rw [if_neg (by simpa using h1), if_neg (by simpa using h5), if_neg (by simp at h2 h7; omega), if_pos (by simp at h8; omega)]) A5 c5 a W (rep.res.le (by (simp only [setn, List.nil_append, List.cons_append, leF, leH_nil, leH_cons, leF_nil, lk, scp, scpL, scpO, resF, resH, resO, resV, resVL, nth, Nat.reduceBEq, Nat.reduceLT, decide_true, decide_false, List.length, List.length_cons, List.length_nil, Nat.reduceAdd, Bool.and_self, Bool.and_true, and_true, true_and, numF] <;> try simp)) (by (simp only [setn, List.nil_append, List.cons_append, leF, leH_nil, leH_cons, leF_nil, lk, scp, scpL, scpO, resF, resH, resO, resV, resVL, nth, Nat.reduceBEq, Nat.reduceLT, decide_true, decide_false, List.length, List.length_cons, List.length_nil, Nat.reduceAdd, Bool.and_self, Bool.and_true, and_true, true_and, numF] <;> try simp)))⟩⟩⟩, fun h8 => ⟨_, hadd, lend_rule fun a W rep => hmis (by unfold ofE; rw [if_neg (by simpa using h1), if_neg (by simpa using h5), if_neg (by simp at h2 h7; omega), if_neg (by simp at h3 h8; omega)]) a W (rep.le (by (simp only [setn, List.nil_append, List.cons_append, leF, leH_nil, leH_cons, leF_nil, lk, scp, scpL, scpO, resF, resH, resO, resV, resVL, nth, Nat.reduceBEq, Nat.reduceLT, decide_true, decide_false, List.length, List.length_cons, List.length_nil, Nat.reduceAdd, Bool.and_self, Bool.and_true, and_true, true_and, numF] <;> try simp)) (by (simp only [setn, List.nil_append, List.cons_append, leF, leH_nil, leH_cons, leF_nil, lk, scp, scpL, scpO, resF, resH, resO, resV, resVL, nth, Nat.reduceBEq, Nat.reduceLT, decide_true, decide_false, List.length, List.length_cons, List.length_nil, Nat.reduceAdd, Bool.and_self, Bool.and_true, and_true, true_and, numF] <;> try simp)))⟩⟩⟩⟩⟩⟩⟩
  ·have hin : i = h.length := by have := of_decide_eq_false hge; omega
   subst hin
   exact ret_rule (vs := [.slice oA (ofL h).length oc, .int .i64 0]) r30 rfl rfl fun W hW => hR _ _ (.inr ⟨hm, oA, oc, rfl, hW.owns (i := 0) rfl, hW.fresh'⟩)
theorem same27 (A B : Option Addr) (ca cb : Nat) (l m : List Sy) (w : World) (hA : RowAt w A (cellsS l)) (hB : RowAt w B (cellsS m)) (hl : l.length ≤ 1000000) (heq : l = m) :
  CallsV Try.prog 27 [.slice A l.length ca, .slice B m.length cb] w fun v w' => v = .bool true ∧ Fresh w w' := by
 subst heq
 refine calls_go (keep := K27) (nt := 26) (svs := [.val (.slice A l.length ca), .val (.slice B l.length cb)]) Try.func27 x27 n27 (by simp) (by simp [IsL, Is]) fun R hR => ?_
 (refine Y_go 600 ?_; dsimp only [X27, numF, Nat.reduceAdd, zq9r, zq9q, Y_k, zq4u, zq8p, zq6p, YK, zq8t, zq9i, normF, zq6n, Nat.reduceBEq, zq6l, zq6k, zq6m, zq86, zq8a, zq87, zq9y, t27n7, T27n7, zq8o, zq55, zq0r, zq50, zq04, zq92, zq9b, zq0i, zq9d, zq9s, zq6h, zq8x, YC, t27n0, T27n0, zq89, zq9x, zq9p, t27n6, T27n6, zq6q, zq9t, zq9v])
 refine ⟨fun hb => absurd hb (by simp), fun _ => ?_⟩
 refine loop_go (α := Nat) (fun i => i ≤ l.length) (fun _ => ⟨w, w.heap.size, [], 26, []⟩)
  (fun i => { F := [(0, .val (.slice A l.length ca)), (1, .val (.slice B l.length cb)), (5, .val (.int .i64 i))], H := [] }) (fun i => l.length - i) (fun _ => rfl) ?start ?round
 case start =>
  intro a W rep
  exact ⟨0, Nat.zero_le _, rep.le (by (simp only [setn, List.nil_append, List.cons_append, leF, leH_nil, leH_cons, leF_nil, lk, scp, scpL, scpO, resF, resH, resO, resV, resVL, nth, Nat.reduceBEq, Nat.reduceLT, decide_true, decide_false, List.length, List.length_cons, List.length_nil, Nat.reduceAdd, Bool.and_self, Bool.and_true, and_true, true_and, numF] <;> try simp)) (by (simp only [setn, List.nil_append, List.cons_append, leF, leH_nil, leH_cons, leF_nil, lk, scp, scpL, scpO, resF, resH, resO, resV, resVL, nth, Nat.reduceBEq, Nat.reduceLT, decide_true, decide_false, List.length, List.length_cons, List.length_nil, Nat.reduceAdd, Bool.and_self, Bool.and_true, and_true, true_and, numF] <;> try simp))⟩
 case round =>
  intro i hi I again
  have hi : i ≤ l.length := hi
  (refine Y_go 600 ?_; dsimp only [zq9y, t27n4, T27n4, zq9r, zq9q, Y_k, zq4u, zq8o, zq6n, Nat.reduceBEq, zq6l, zq6k, YK, zq8t, zq55, zq0r, zq50, zq04, zq92, zq9b, zq0i, zq9e, zq9i, normF, zq6m, zq86, zq87, zq9s, zq6h, zq8x, YC, zq9p, t27n3, T27n3, zq9t, zq58, zq06, zq0w, zq5c, zq1p, zq1c, List.nil_append, List.cons_append, zq1b, zq17, zq5s, zq3o, eqSV, zq3p, zq89, t27n1, T27n1, zq8p, zq6p, zq8a, zq9x, zqa1, t27n2, T27n2, zq4w, zq6q, zq0e, zqa2, zq9u, popTo, zq6i, YP, t27n5, T27n5, zq6o])
  refine ⟨fun hlt => ?_, fun hge => ?_⟩
  ·have hlt : i < l.length := by have := of_decide_eq_true hlt; omega
   have cl : ∀ {C : Option Addr}, RowAt w C (cellsS l) → ∀ k v, (l[i]).cells[k]? = some v → CellAt ⟨w, w.heap.size, [], 26, []⟩ C ((i : Int).toNat * 3 + k) v := by
    intro C hC k v hk
    rw [Int.toNat_natCast]
    exact hC.cell (by rw [cellsS_get l hlt (List.getElem?_eq_some_iff.1 hk).1]; exact hk)
   have sA : A.isSome = true := hA.isSome (j := i * 3) (by rw [cellsS_len]; omega)
   have sB : B.isSome = true := hB.isSome (j := i * 3) (by rw [cellsS_len]; omega)
   refine ⟨⟨by omega, by omega, sA⟩, _, cl hA 0 _ rfl, _, cl hA 1 _ rfl, _, cl hA 2 _ rfl, ⟨by omega, by omega, sB⟩, _, cl hB 0 _ rfl, _, cl hB 1 _ rfl, _, cl hB 2 _ rfl, ?_⟩
   refine ⟨fun hb => absurd hb (by simp), fun _ => ⟨((i + 1 : Nat) : Int), ArOk.to (by omega) (by omega) (by omega), lend_rule fun a W rep => again (i + 1) hlt (by omega) a W (rep.le (by (simp only [setn, List.nil_append, List.cons_append, leF, leH_nil, leH_cons, leF_nil, lk, scp, scpL, scpO, resF, resH, resO, resV, resVL, nth, Nat.reduceBEq, Nat.reduceLT, decide_true, decide_false, List.length, List.length_cons, List.length_nil, Nat.reduceAdd, Bool.and_self, Bool.and_true, and_true, true_and, numF] <;> try simp)) (by (simp only [setn, List.nil_append, List.cons_append, leF, leH_nil, leH_cons, leF_nil, lk, scp, scpL, scpO, resF, resH, resO, resV, resVL, nth, Nat.reduceBEq, Nat.reduceLT, decide_true, decide_false, List.length, List.length_cons, List.length_nil, Nat.reduceAdd, Bool.and_self, Bool.and_true, and_true, true_and, numF] <;> try simp)))⟩⟩
  ·exact ret_rule (vs := [.bool true]) r27 rfl rfl fun W hW => hR _ _ ⟨rfl, hW.fresh'⟩
end Go.Proofs.Ytnedgfkgmdoahaa
