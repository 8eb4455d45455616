/- FlowReaches: the statement, walked. -/
import Derived.Test.YtgghmmjoplddbaaDoorDLoW
import Derived.Test.YtgghmmjoplddbaaDoorDFpW
import Derived.Test.YtgghmmjoplddbaaDoorDFlCodeP
set_option linter.unusedSimpArgs false
set_option linter.unusedVariables false
set_option linter.unnecessarySimpa false
namespace Go.Proofs.YtgghmmjoplddbaaDoor
open Go Go.Sx Go.Isa
set_option maxRecDepth 100000
theorem lpT_pre (nx : List (List Int)) (i : Nat) : ∀ d, ∃ r, lpT nx (i + d) = lpT nx i ++ r
 | 0 => ⟨[], by simp⟩
 | d + 1 => by
  obtain ⟨r, h⟩ := lpT_pre nx i d
  exact ⟨r ++ lpI nx (i + d) (nx.getD (i + d) []), by
   show lpT nx (i + d) ++ lpI nx (i + d) (nx.getD (i + d) []) = _
   rw [h, List.append_assoc]⟩
theorem lp_at {nx : List (List Int)} {i k N : Nat} {s : List Int} {z : Int} (hs : nx.getD i [] = s) (hz : s[k]? = some z) (hd : dbC nx z.toNat i = true) (hi : i < N) : (lpT nx N)[(lpT nx i).length + (lpI nx i (s.take k)).length]? = some ((i : Int), z) := by
 obtain ⟨r, h⟩ := lpT_pre nx (i + 1) (N - (i + 1))
 rw [Nat.add_sub_cancel' (by omega)] at h
 have hk := (List.getElem?_eq_some_iff.1 hz).1
 have h1 : lpT nx (i + 1) = lpT nx i ++ lpI nx i s := by rw [← hs]; rfl
 have h2 : s = s.take k ++ (z :: s.drop (k + 1)) := by
  have h3 := (List.getElem?_eq_some_iff.1 hz).2
  rw [← h3, List.getElem_cons_drop, List.take_append_drop]
 have h4 : lpI nx i s = lpI nx i (s.take k) ++ (((i : Int), z) :: lpI nx i (s.drop (k + 1))) := by
  conv => lhs; rw [h2]
  unfold lpI
  rw [List.filter_append, List.map_append]
  congr 1
  simp [hd]
 rw [h, h1, h4]
 have e : lpT nx i ++ (lpI nx i (s.take k) ++ ((i : Int), z) :: lpI nx i (s.drop (k + 1))) ++ r = (lpT nx i ++ lpI nx i (s.take k)) ++ (((i : Int), z) :: (lpI nx i (s.drop (k + 1)) ++ r)) := by simp
 rw [e, ← List.length_append, List.getElem?_append_right (Nat.le_refl _), Nat.sub_self]; rfl
theorem law5 (l : List In) (B : Option Addr) (bc : Nat) (w : World) (hB : RowAt w B (cellsI l)) (hG : ShAt w) :
  CallsV Tryd.prog 5 [.slice B l.length bc] w fun v w' => Fresh w w' ∧ v = .bool true := by
 refine calls_go (keep := K5) (nt := 167) (svs := [.val (.slice B l.length bc)]) Tryd.func5 x5 n5 (by simp) (by simp [IsL, Is]) fun R hR => ?_
 (refine Y_go 600 ?_; dsimp only [X5, numF, Nat.reduceAdd, zq9r, zq9q, Y_k, zq4u, zq8p, zq6p, YK, zq8t, zq9i, normF, zq6n, Nat.reduceBEq, zq6l, zq6k, zq6m, zq86, zq8a, zq87, zq9y, t5n30, T5n30, zq8o, zq55, zq0r, zq50, zq6q, zq04, zq92, zq9b, zq0i, zq9g, zq9s, zq6h, zq8x, YC, t5n0, T5n0, zq6o, zq89, zq9x, zq9p, t5n29, T5n29, zq9j])
 refine ⟨fun _ => ret_rule (vs := [.bool true]) r5 rfl rfl fun W hW => hR _ _ ⟨hW.fresh', rfl⟩, fun h1 => ?_⟩
 have hl : l.length ≤ 120 := by have := of_decide_eq_false h1; omega
 obtain ⟨nx, hnx⟩ : ∃ nx, nx = (partsL l).map Pa.nx := ⟨_, rfl⟩
 have hnl : nx.length = (bgL l).length := by rw [hnx, List.length_map, partsL_len]
 have hbn := bgL_len l
 refine call_base (vs := [.slice B l.length bc]) rfl (R := fun W v W' => ∃ u, v = .tuple #[u, .int .i64 0] ∧ ReachR nx (-1) W u W') (fun W hW => reached18 l nx hnx B bc W (by omega) (hB.keep hW.fresh') (hG.keep hW.fresh')) (fun _ _ _ h => by obtain ⟨_, _, _, _, _, _, _, _, h⟩ := h; exact h) fun W1 v W2 hW1 ⟨u, hv, aA, ac, oa, hu, a1, a2, a3⟩ _ => ?_
 subst hv; subst hu
 have f1 : Fresh w W2 := Fresh.tr hW1.fresh' a3
 have ka : RowAt W2 aA (bsV oa) := .of_own a2 rfl
 refine ⟨.tup [.val (.slice aA oa.length ac), .val (.int .i64 0)], by simp [Is, IsL], ?_⟩
 rw [show fps ([] : List SO) = [] from rfl]
 (refine Y_go 600 ?_; dsimp only [zq8t, Y_k, zq4u, zq8o, zq6n, Nat.reduceBEq, zq6k, YK, zq5j, zq2f, nth, zq2e, zq6l, zq9i, normF, zq6m, zq86, zq8a, zq87, zq9y, t5n28, T5n28, zq9r, zq9q, zq9j])
 refine call_base (vs := [.slice B l.length bc]) rfl (R := fun W v W' => ∃ u, v = .tuple #[u, .int .i64 0] ∧ DomR nx W u W') (fun W hW => dominates19 l nx hnx B bc W (by omega) ((hB.keep f1).keep hW.fresh') ((hG.keep f1).keep hW.fresh')) (fun _ _ _ h => by obtain ⟨_, _, _, _, _, _, _, _, _, _, h⟩ := h; exact h) fun W3 v W4 hW3 ⟨u, hv, dA, dc, rs, hu, g1, g2, g3, g4, g5⟩ _ => ?_
 subst hv; subst hu
 have f2 : Fresh W2 W4 := Fresh.tr hW3.fresh' g5
 have kd : RowAt W4 dA (cellsB rs) := .of_own g3 rfl
 have fw2 : Fresh w W4 := Fresh.tr f1 f2
 refine ⟨.tup [.val (.slice dA rs.length dc), .val (.int .i64 0)], by simp [Is, IsL], ?_⟩
 rw [show fps ([] : List SO) = [] from rfl]
 (refine Y_go 600 ?_; dsimp only [zq8t, Y_k, zq4u, zq8o, zq6n, Nat.reduceBEq, zq6k, YK, zq5j, zq2f, nth, zq2e, zq6l, zq9i, normF, zq6m, zq86, zq8a, zq87, zq9y, t5n27, T5n27, zq9r, zq9q, zq9j])
 refine call_base (vs := [.slice B l.length bc]) rfl (R := fun W v W' => ∃ u, v = .tuple #[u, .int .i64 0] ∧ LoopR nx W u W') (fun W hW => loops16 l nx hnx B bc W (by omega) ((hB.keep fw2).keep hW.fresh') ((hG.keep fw2).keep hW.fresh')) (fun _ _ _ h => by obtain ⟨_, _, _, _, _, _, h⟩ := h; exact h) fun W5 v W6 hW5 ⟨u, hv, lA, lc, hu, j2, j3⟩ _ => ?_
 subst hv; subst hu
 have f3 : Fresh W4 W6 := Fresh.tr hW5.fresh' j3
 have kl : RowAt W6 lA (prV (lpT nx nx.length)) := .of_own j2 rfl
 have fw3 : Fresh w W6 := Fresh.tr fw2 f3
 refine ⟨.tup [.val (.slice lA (lpT nx nx.length).length lc), .val (.int .i64 0)], by simp [Is, IsL], ?_⟩
 rw [show fps ([] : List SO) = [] from rfl]
 (refine Y_go 600 ?_; dsimp only [zq8t, Y_k, zq4u, zq8o, zq6n, Nat.reduceBEq, zq6k, YK, zq5j, zq2f, nth, zq2e, zq6l, zq9i, normF, zq6m, zq86, zq8a, zq87, zq9y, t5n26, T5n26, zq9r, zq9q, zq9j])
 refine call_base (vs := [.slice B l.length bc]) rfl (R := fun W v W' => PartsR l W v W') (fun W hW => parts89 l B bc W (by omega) ((hB.keep fw3).keep hW.fresh')) (fun _ _ _ h => by obtain ⟨_, _, _, _, _, _, _, _, h⟩ := h; exact h) fun W7 v W8 hW7 ⟨qA, qc, qs, hv, q1, q2, q3, _, q4⟩ _ => ?_
 subst hv
 have f4 : Fresh W6 W8 := Fresh.tr hW7.fresh' q4
 have kq : RowAt W8 qA (cellsR qs) := .of_own q2 rfl
 have fw4 : Fresh w W8 := Fresh.tr fw3 f4
 have hql := partsR_len q1
 have enx : nxs qs = nx := by rw [hnx, ← q1]; simp [nxs]
 have hqn : ∀ s ∈ nxs qs, s.length ≤ 2 ∧ ∀ j ∈ s, (0 : Int) ≤ j ∧ j < qs.length := by
  intro s hs
  unfold nxs at hs
  obtain ⟨p, hp, rfl⟩ := List.mem_map.1 hs
  obtain ⟨i, hi⟩ := List.getElem?_of_mem hp
  have e := nxs_parts q1 hi
  have hlt : i < (bgL l).length := by rw [← hql]; exact (List.getElem?_eq_some_iff.1 hi).1
  have hb : (bgL l)[i]? = some (bgL l)[i] := List.getElem?_eq_getElem hlt
  rw [e]
  exact ⟨nxL_len _ _ _, fun j hj => by rw [hql]; exact nxL_range hb hj⟩
 refine ⟨.val (.slice qA qs.length qc), by simp [Is], ?_⟩
 rw [show fps ([] : List SO) = [] from rfl]
 (refine Y_go 600 ?_; dsimp only [zq8t, Y_k, zq4u, zq8o, zq6n, Nat.reduceBEq, zq6k, YK, zq9i, normF, zq6l, zq6m, zq86, zq8a, zq87, zq9y, t5n25, T5n25, zq9r, zq9q, zq9j])
 refine call_base (vs := [.slice qA qs.length qc, .int .i64 (-1)]) rfl (R := fun W v W' => ReachR nx (-1) W v W') (fun W hW => enx ▸ reached17 qs (-1) qA qc W (by omega) (kq.keep hW.fresh') (q3.keep hW.fresh') hqn) (fun _ _ _ h => by obtain ⟨_, _, _, _, _, _, h⟩ := h; exact h) fun W9 v W10 hW9 ⟨bA, bc2, ob, hv, b1, b2, b3⟩ _ => ?_
 subst hv
 have f5 : Fresh W8 W10 := Fresh.tr hW9.fresh' b3
 have fw : Fresh w W10 := Fresh.tr fw4 f5
 have kb : RowAt W10 bA (bsV ob) := .of_own b2 rfl
 have hab : oa = ob := a1.uniq b1
 subst hab
 have ka : RowAt W10 aA (bsV oa) := ((ka.keep f2).keep f3).keep (Fresh.tr f4 f5)
 have kd : RowAt W10 dA (cellsB rs) := (kd.keep f3).keep (Fresh.tr f4 f5)
 have kdr : RbAt W10 rs := (g4.keep f3).keep (Fresh.tr f4 f5)
 have kl : RowAt W10 lA (prV (lpT nx nx.length)) := kl.keep (Fresh.tr f4 f5)
 have kq : RowAt W10 qA (cellsR qs) := kq.keep f5
 have kqn : NxAt W10 qs := q3.keep f5
 clear a2 a3 g3 g4 g5 j2 j3 q2 q3 q4 b2 b3 f1 f2 f3 f4 f5 fw2 fw3 fw4 hW1 hW3 hW5 hW7 hW9
 refine ⟨.val (.slice bA oa.length bc2), by simp [Is], ?_⟩
 rw [show fps ([] : List SO) = [] from rfl]
 (refine Y_go 600 ?_; dsimp only [zq8t, Y_k, zq4u, zq8o, zq6n, Nat.reduceBEq, zq6k, YK, zq9i, normF, zq6l, zq6m, zq86, zq8a, zq87, zq9y, t5n24, T5n24, zq9r, zq9q, zq50, zq8p, zq6q, zq04, zq92, zq9b, zq0i, zq9d, Y_gk, zq6e, YS, zq6a, zq4v, zq6o, zq0b, zq9l, zq89, zq9s, zq6f, YC, t5n1, T5n1, zq6p, zq9x, YR, zq6c, zq0c, YG])
 have hqn2 : qs.length = nx.length := by rw [hql, hnl]
 have hrn : rs.length = nx.length := g1
 have hon : oa.length = nx.length := a1.1
 have hll := lpT_len nx (fun s hs => (hqn s (by rw [enx]; exact hs)).1)
 refine ⟨fun h => absurd h (by decide), fun _ => ⟨fun h => absurd h (by decide), fun _ => ⟨fun h => absurd h (by decide), fun _ => ?_⟩⟩⟩
 refine call_val (vs := [.slice aA oa.length ac, .slice bA oa.length bc2]) rfl (fun W hW => bools18 oa aA bA ac bc2 W (by omega) (ka.keep hW.fresh') (kb.keep hW.fresh')) fun v hv => ⟨.bt, by rw [hv]; simp [Is], ?_⟩
 (refine Y_go 600 ?_; dsimp only [zq8t, Y_gk, zq6n, Nat.reduceBEq, zq6l, zq6k, zq6c, YR, zq53, zq8o, zq0m, YK, Y_k, zq4v, zq8p, zq6o, zq0c, zq4u, zq55, zq0r, zq50, zq04, zq92, zq9b, zq0i, zq9d, zq9i, normF, zq6m, zq86, zq87, zq8a, zq9s, zq6h, zq8x, YC, zq9y, t5n1, T5n1, zq9r, zq9q, zq6p, zq89, zq9x, zq9p, t5n23, T5n23, zq6q, t5n22, T5n22, zq9t, zq9v])
 refine ⟨fun h => absurd h (by simp [hrn, hqn2]), fun _ => ?_⟩
 refine loop_go (α := Nat) (fun i => i ≤ qs.length) (fun _ => ⟨W10, W10.heap.size, [], 167, []⟩) (fun i => { F := [(5, .val (.slice dA rs.length dc)), (7, .val (.slice lA (lpT nx nx.length).length lc)), (9, .val (.slice qA qs.length qc)), (10, .val (.slice bA oa.length bc2)), (11, .val (.int .i64 0)), (12, .val (.int .i64 (i : Int)))], H := [] }) (fun i => qs.length - i) (fun _ => rfl) ?start ?round
 case start =>
  intro a W rep
  exact ⟨0, Nat.zero_le _, rep.le (by (simp only [setn, List.nil_append, List.cons_append, leF, leH_nil, leH_cons, leF_nil, lk, scp, scpL, scpO, resF, resH, resO, resV, resVL, nth, Nat.reduceBEq, Nat.reduceLT, decide_true, decide_false, List.length, List.length_cons, List.length_nil, Nat.reduceAdd, Bool.and_self, Bool.and_true, and_true, true_and, numF] <;> try simp)) (by (simp only [setn, List.nil_append, List.cons_append, leF, leH_nil, leH_cons, leF_nil, lk, scp, scpL, scpO, resF, resH, resO, resV, resVL, nth, Nat.reduceBEq, Nat.reduceLT, decide_true, decide_false, List.length, List.length_cons, List.length_nil, Nat.reduceAdd, Bool.and_self, Bool.and_true, and_true, true_and, numF] <;> try simp))⟩
 case round =>
  intro i hi I again
  have hi : i ≤ qs.length := hi
  have hi1 : ((i : Nat) : Int).toNat = i := by omega
  (refine Y_go 600 ?_; dsimp only [zq9y, t5n9, T5n9, zq9r, zq9q, Y_k, zq4u, zq8o, zq6n, Nat.reduceBEq, zq6l, zq6k, YK, zq8t, zq55, zq0r, zq50, zq04, zq92, zq9b, zq0i, zq9e, zq9i, normF, zq6m, zq86, zq87, zq9s, zq6h, zq8x, YC, zq9p, t5n8, T5n8, zq9t, zq9j, zq9u, popTo, zq6i, YP, t5n21, T5n21, zq8p, zq6q, zq8a, zq9v])
  refine ⟨fun hlt => ?_, fun hge => ?_⟩
  ·have hlt : i < qs.length := by have := of_decide_eq_true hlt; omega
   obtain ⟨r, hr⟩ : ∃ r, rs[i]? = some r := ⟨rs[i]'(by omega), List.getElem?_eq_getElem (by omega)⟩
   have hro := g2 i _ hr
   have hrl := hro.1
   have kr := kdr _ (List.mem_of_getElem? hr)
   have qd : CellAt ⟨W10, W10.heap.size, [], 167, []⟩ dA (i * 1) (.slice r.A r.os.length r.c) := kd.cell (by rw [Nat.mul_one, cellsB_get hr])
   have sD : dA.isSome = true := by obtain ⟨a, h, _⟩ := qd; rw [h]; rfl
   refine call_rule (vs := [.slice qA qs.length qc, .int .i64 (i : Int)]) rfl (R := fun W v W' => ReachR nx (i : Int) W v W') (fun W hW => enx ▸ reached17 qs i qA qc W (by omega) (kq.keep hW.fresh') (kqn.keep hW.fresh') hqn) fun W v W' hW ⟨A, c, ro, hv, r1, ho, hk⟩ => ?_
   obtain ⟨A', c', e1, e2, e5, _⟩ := hW.gain ho hk
   injection e1 with e3 _ e4
   subst e3; subst e4; subst hv
   refine ⟨.own 0 0, _, ?_, e2, e5, ?_⟩
   ·simp only [Is]; exact ⟨_, _, _, _, _, _, _, rfl, Nat.le_refl _, ⟨_, _, _, rfl⟩, fun _ => rfl⟩
   clear e5 e2 hW ho hk
   have hrol : ro.length = nx.length := r1.1
   (refine Y_go 600 ?_; dsimp only [zq8t, List.nil_append, Y_k, zq4u, zq8o, zq6n, Nat.reduceBEq, zq6k, YK, zq9i, normF, zq6l, zq6m, zq86, zq89, zq8f, zq87, zq9y, t5n6, T5n6, zq9r, zq9q, zq8p, zq6q, zq9t, zq9v])
   refine loop_go (α := Nat) (fun k => k ≤ qs.length) (fun _ => ⟨W10, W10.heap.size, [], 167, []⟩) (fun k => { F := [(5, .val (.slice dA rs.length dc)), (7, .val (.slice lA (lpT nx nx.length).length lc)), (9, .val (.slice qA qs.length qc)), (10, .val (.slice bA oa.length bc2)), (11, .val (.int .i64 0)), (12, .val (.int .i64 (i : Int))), (13, .own 0 0), (14, .val (.int .i64 (k : Int)))], H := [.own 4 0 1 A ro.length c (bsV ro)] }) (fun k => qs.length - k) (fun _ => rfl) ?start2 ?round2
   case start2 =>
    intro a W rep
    exact ⟨0, Nat.zero_le _, rep.le (by (simp only [setn, List.nil_append, List.cons_append, leF, leH_nil, leH_cons, leF_nil, lk, scp, scpL, scpO, resF, resH, resO, resV, resVL, nth, Nat.reduceBEq, Nat.reduceLT, decide_true, decide_false, List.length, List.length_cons, List.length_nil, Nat.reduceAdd, Bool.and_self, Bool.and_true, and_true, true_and, numF] <;> try simp)) (by (simp only [setn, List.nil_append, List.cons_append, leF, leH_nil, leH_cons, leF_nil, lk, scp, scpL, scpO, resF, resH, resO, resV, resVL, nth, Nat.reduceBEq, Nat.reduceLT, decide_true, decide_false, List.length, List.length_cons, List.length_nil, Nat.reduceAdd, Bool.and_self, Bool.and_true, and_true, true_and, numF] <;> try simp))⟩
   case round2 =>
    intro k hk I2 again2
    have hk : k ≤ qs.length := hk
    have hk1 : ((k : Nat) : Int).toNat = k := by omega
    (refine Y_go 600 ?_; dsimp only [zq9y, t5n5, T5n5, zq9r, zq9q, Y_k, zq4u, zq8o, zq6n, Nat.reduceBEq, zq6l, zq6k, YK, zq8t, zq55, zq0r, zq50, zq04, zq92, zq9b, zq0i, zq9e, zq9i, normF, zq6m, zq86, zq87, zq8f, zq9s, zq6h, zq8x, YC, zq9p, t5n4, T5n4, zq9t, zq58, zq06, zq0w, zq5c, zq1p, zq1g, List.nil_append, zq1b, zq18, zq9d, Y_gk, zq6e, YS, zq6a, zq02, zq4v, zq8p, zq6o, zq0b, zq89, zq6f, t5n2, T5n2, zq6p, zq8a, zq9x, YR, zq6c, zq1d, zq6d, zq69, zq0y, nth, zq09, zq08, zq0v, zq1q, zq1n, zq53, zq0o, zq51, zq8w, zq0j, zq0c, zqa1, t5n3, T5n3, zq4w, zq6q, zq0e, zqa2, zq6b, zq8v, zq9u, popTo, zq6i, YP, t5n7, T5n7])
    refine ⟨fun hltk => ?_, fun hgek => ?_⟩
    ·have hltk : k < qs.length := by have := of_decide_eq_true hltk; omega
     have v1 := hro.at (k := k) (by omega)
     have v2 := ReachOk.at a1 (k := k) (by omega)
     have v3 := ReachOk.at r1 (k := k) (by omega)
     have hdb : dbC nx i k = (rcC nx (-1) k && !rcC nx i k) := rfl
     generalize dbC nx i k = x1 at v1 hdb
     generalize rcC nx (-1) k = x2 at v2 hdb
     generalize rcC nx (i : Int) k = x3 at v3 hdb
     have c1 : CellAt ⟨W10, W10.heap.size, [], 167, []⟩ r.A (k * 1) (.bool x1) := kr.cell (by rw [Nat.mul_one]; exact bsV_get v1)
     have c2 : CellAt ⟨W10, W10.heap.size, [], 167, []⟩ bA (k * 1) (.bool x2) := kb.cell (by rw [Nat.mul_one]; exact bsV_get v2)
     have c3 : (bsV ro)[k * 1]? = some (.bool x3) := by rw [Nat.mul_one]; exact bsV_get v3
     have s1 : r.A.isSome = true := by obtain ⟨a, h, _⟩ := c1; rw [h]; rfl
     have s2 : bA.isSome = true := by obtain ⟨a, h, _⟩ := c2; rw [h]; rfl
     have k64 : ArOk .add .i64 (k : Int) 1 ((k + 1 : Nat) : Int) := ArOk.to (by omega) (by omega) (by omega)
     rw [hi1, hk1]
     have bdi : (0 : Int) ≤ (i : Int) ∧ (i : Int) < (rs.length : Int) ∧ dA.isSome = true := ⟨by omega, by omega, sD⟩
     have go : ∀ a W (F : List (Nat × SV)), leF 1 F [(5, .val (.slice dA rs.length dc)), (7, .val (.slice lA (lpT nx nx.length).length lc)), (9, .val (.slice qA qs.length qc)), (10, .val (.slice bA oa.length bc2)), (11, .val (.int .i64 0)), (12, .val (.int .i64 (i : Int))), (13, .own 0 0), (14, .val (.int .i64 ((k + 1 : Nat) : Int)))] → Rep ⟨W10, W10.heap.size, [], 167, []⟩ { F := F, H := [.own 4 0 1 A ro.length c (bsV ro)] } a W → I2 a W := fun a W F hF rep => again2 (k + 1) (by show k + 1 ≤ _; omega) (by show _ - (k + 1) < _ - k; omega) a W (rep.le hF (by (simp only [setn, List.nil_append, List.cons_append, leF, leH_nil, leH_cons, leF_nil, lk, scp, scpL, scpO, resF, resH, resO, resV, resVL, nth, Nat.reduceBEq, Nat.reduceLT, decide_true, decide_false, List.length, List.length_cons, List.length_nil, Nat.reduceAdd, Bool.and_self, Bool.and_true, and_true, true_and, numF] <;> try simp)))
     exact ⟨bdi, _, _, _, qd, fun h => absurd h (by simp [hrl, hqn2]), fun _ => ⟨bdi, _, _, _, qd, ⟨by omega, by omega, s1⟩, _, c1, ⟨by omega, by omega, s2⟩, _, c2, fun hx => ⟨⟨by omega, by omega⟩, _, c3, fun h => absurd h (by rw [hdb, hx]; simp), fun _ => ⟨_, k64, lend_rule fun a W rep => go a W _ (by (simp only [setn, List.nil_append, List.cons_append, leF, leH_nil, leH_cons, leF_nil, lk, scp, scpL, scpO, resF, resH, resO, resV, resVL, nth, Nat.reduceBEq, Nat.reduceLT, decide_true, decide_false, List.length, List.length_cons, List.length_nil, Nat.reduceAdd, Bool.and_self, Bool.and_true, and_true, true_and, numF] <;> try simp)) rep⟩⟩, fun hx => ⟨fun h => absurd h (by rw [hdb, hx]; simp), fun _ => ⟨_, k64, lend_rule fun a W rep => go a W _ (by (simp only [setn, List.nil_append, List.cons_append, leF, leH_nil, leH_cons, leF_nil, lk, scp, scpL, scpO, resF, resH, resO, resV, resVL, nth, Nat.reduceBEq, Nat.reduceLT, decide_true, decide_false, List.length, List.length_cons, List.length_nil, Nat.reduceAdd, Bool.and_self, Bool.and_true, and_true, true_and, numF] <;> try simp)) rep⟩⟩⟩⟩
    ·exact ⟨_, ArOk.to (r := ((i + 1 : Nat) : Int)) (by omega) (by omega) (by omega), lend_rule fun a W rep => again (i + 1) (by show i + 1 ≤ _; omega) (by show _ - (i + 1) < _ - i; omega) a W (rep.le (by (simp only [setn, List.nil_append, List.cons_append, leF, leH_nil, leH_cons, leF_nil, lk, scp, scpL, scpO, resF, resH, resO, resV, resVL, nth, Nat.reduceBEq, Nat.reduceLT, decide_true, decide_false, List.length, List.length_cons, List.length_nil, Nat.reduceAdd, Bool.and_self, Bool.and_true, and_true, true_and, numF] <;> try simp)) (by (simp only [setn, List.nil_append, List.cons_append, leF, leH_nil, leH_cons, leF_nil, lk, scp, scpL, scpO, resF, resH, resO, resV, resVL, nth, Nat.reduceBEq, Nat.reduceLT, decide_true, decide_false, List.length, List.length_cons, List.length_nil, Nat.reduceAdd, Bool.and_self, Bool.and_true, and_true, true_and, numF] <;> try simp)))⟩
  ·clear again
   refine loop_go (α := Nat) (fun i => i ≤ qs.length) (fun _ => ⟨W10, W10.heap.size, [], 167, []⟩) (fun i => { F := [(5, .val (.slice dA rs.length dc)), (7, .val (.slice lA (lpT nx nx.length).length lc)), (9, .val (.slice qA qs.length qc)), (11, .val (.int .i64 ((lpT nx i).length : Int))), (15, .val (.int .i64 (i : Int)))], H := [] }) (fun i => qs.length - i) (fun _ => rfl) ?start3 ?round3
   case start3 =>
    intro a W rep
    exact ⟨0, Nat.zero_le _, rep.le (by rw [show (lpT nx 0).length = 0 from rfl]; (simp only [setn, List.nil_append, List.cons_append, leF, leH_nil, leH_cons, leF_nil, lk, scp, scpL, scpO, resF, resH, resO, resV, resVL, nth, Nat.reduceBEq, Nat.reduceLT, decide_true, decide_false, List.length, List.length_cons, List.length_nil, Nat.reduceAdd, Bool.and_self, Bool.and_true, and_true, true_and, numF] <;> try simp)) (by (simp only [setn, List.nil_append, List.cons_append, leF, leH_nil, leH_cons, leF_nil, lk, scp, scpL, scpO, resF, resH, resO, resV, resVL, nth, Nat.reduceBEq, Nat.reduceLT, decide_true, decide_false, List.length, List.length_cons, List.length_nil, Nat.reduceAdd, Bool.and_self, Bool.and_true, and_true, true_and, numF] <;> try simp))⟩
   case round3 =>
    clear hge hi1 hi
    intro i hi I3 again3
    have hi : i ≤ qs.length := hi
    have hi1 : ((i : Nat) : Int).toNat = i := by omega
    have hli := hll i
    (refine Y_go 600 ?_; dsimp only [zq9y, t5n19, T5n19, zq9r, zq9q, Y_k, zq4u, zq8o, zq6n, Nat.reduceBEq, zq6l, zq6k, YK, zq8t, zq55, zq0r, zq50, zq04, zq92, zq9b, zq0i, zq9e, zq9i, normF, zq6m, zq86, zq87, zq9s, zq6h, zq8x, YC, zq9p, t5n18, T5n18, zq9t, zq8p, zq6q, zq89, zq9v, zq9u, popTo, zq6i, YP, t5n20, T5n20, zq9c, zq8a, zq9x])
    refine ⟨fun hlt => ?_, fun hge => ?_⟩
    ·have hlt : i < qs.length := by have := of_decide_eq_true hlt; omega
     have hp : qs[i]? = some qs[i] := List.getElem?_eq_getElem hlt
     have hpm := List.mem_of_getElem? hp
     generalize qs[i] = p at hp hpm
     have hs : (nxs qs)[i]? = some p.pa.nx := by unfold nxs; rw [List.getElem?_map, hp]; rfl
     have hsr := hqn p.pa.nx (List.mem_of_getElem? hs)
     have hnxi : nx.getD i [] = p.pa.nx := by rw [← enx, List.getD_eq_getElem?_getD, hs]; rfl
     have hstep : lpT nx (i + 1) = lpT nx i ++ lpI nx i p.pa.nx := by rw [← hnxi]; rfl
     have q2 : CellAt ⟨W10, W10.heap.size, [], 167, []⟩ qA (i * 3 + 2) (.slice p.A p.pa.nx.length p.c) := kq.cell (by rw [cellsR_get hp (by omega)]; rfl)
     have sQ : qA.isSome = true := by obtain ⟨a, h, _⟩ := q2; rw [h]; rfl
     have bdq : (0 : Int) ≤ (i : Int) ∧ (i : Int) < (qs.length : Int) ∧ qA.isSome = true := ⟨by omega, by omega, sQ⟩
     have kx := kqn p hpm
     refine loop_go (α := Nat) (fun k => k ≤ p.pa.nx.length) (fun _ => ⟨W10, W10.heap.size, [], 167, []⟩) (fun k => { F := [(5, .val (.slice dA rs.length dc)), (7, .val (.slice lA (lpT nx nx.length).length lc)), (9, .val (.slice qA qs.length qc)), (11, .val (.int .i64 (((lpT nx i).length + (lpI nx i (p.pa.nx.take k)).length : Nat) : Int))), (15, .val (.int .i64 (i : Int))), (16, .val (.int .i64 (k : Int)))], H := [] }) (fun k => p.pa.nx.length - k) (fun _ => rfl) ?start4 ?round4
     case start4 =>
      intro a W rep
      exact ⟨0, Nat.zero_le _, rep.le (by simp only [lpI, List.take_zero, List.filter_nil, List.map_nil, List.length_nil, Nat.add_zero]; (simp only [setn, List.nil_append, List.cons_append, leF, leH_nil, leH_cons, leF_nil, lk, scp, scpL, scpO, resF, resH, resO, resV, resVL, nth, Nat.reduceBEq, Nat.reduceLT, decide_true, decide_false, List.length, List.length_cons, List.length_nil, Nat.reduceAdd, Bool.and_self, Bool.and_true, and_true, true_and, numF] <;> try simp)) (by (simp only [setn, List.nil_append, List.cons_append, leF, leH_nil, leH_cons, leF_nil, lk, scp, scpL, scpO, resF, resH, resO, resV, resVL, nth, Nat.reduceBEq, Nat.reduceLT, decide_true, decide_false, List.length, List.length_cons, List.length_nil, Nat.reduceAdd, Bool.and_self, Bool.and_true, and_true, true_and, numF] <;> try simp))⟩
     case round4 =>
      intro k hk I4 again4
      have hk : k ≤ p.pa.nx.length := hk
      have hk1 : ((k : Nat) : Int).toNat = k := by omega
      have hln := lpI_len nx i (p.pa.nx.take k)
      have htk : (p.pa.nx.take k).length ≤ 2 := by rw [List.length_take]; omega
      (refine Y_go 600 ?_; dsimp only [zq9y, t5n16, T5n16, zq9r, zq9q, Y_k, zq4u, zq8o, zq6n, Nat.reduceBEq, zq6l, zq6k, YK, zq8t, zq58, zq06, zq0w, zq5a, zq16, zq5c, zq1p, zq1g, List.nil_append, zq1b, zq18, zq55, zq0r, zq50, zq04, zq92, zq9b, zq0i, zq9e, zq9i, normF, zq6m, zq86, zq87, zq9s, zq6h, zq8x, YC, zq9p, t5n15, T5n15, zq9t, zq1c, zq89, t5n13, T5n13, zq1d, zq53, zq0o, zq9u, popTo, zq6i, YP, t5n14, T5n14, zq4w, zq8p, zq6q, zq0e, zqa2, t5n12, T5n12, zq9h, Y_gk, zq6e, YS, zq6a, zq4v, zq6o, zq0b, zq8a, zq6f, t5n10, T5n10, zq6p, zq9x, YR, zq6c, zq59, zq12, Int.reduceToNat, Nat.reduceMul, Nat.add_zero, zq9d, zq0c, t5n11, T5n11, zqa1, t5n17, T5n17])
      rw [hi1]
      refine ⟨bdq, sQ, _, _, _, q2, fun hltk => ?_, fun hgek => ?_⟩
      ·have hltk : k < p.pa.nx.length := by have := of_decide_eq_true hltk; omega
       have hz : p.pa.nx[k]? = some p.pa.nx[k] := List.getElem?_eq_getElem hltk
       have hzr := hsr.2 _ (List.getElem_mem hltk)
       generalize p.pa.nx[k] = z at hz hzr
       obtain ⟨m, rfl⟩ : ∃ m : Nat, (m : Int) = z := ⟨z.toNat, by omega⟩
       have hm1 : ((m : Nat) : Int).toNat = m := by omega
       have qz : CellAt ⟨W10, W10.heap.size, [], 167, []⟩ p.A (k * 1) (.int .i64 (m : Int)) := kx.cell (by rw [Nat.mul_one]; exact isV_get _ _ _ hz)
       have sN : p.A.isSome = true := by obtain ⟨a, h, _⟩ := qz; rw [h]; rfl
       obtain ⟨r, hr⟩ : ∃ r, rs[m]? = some r := ⟨rs[m]'(by omega), List.getElem?_eq_getElem (by omega)⟩
       have hro := g2 m _ hr
       have hrl := hro.1
       have kr := kdr _ (List.mem_of_getElem? hr)
       have hrb := hro.at (k := i) (by omega)
       have qd : CellAt ⟨W10, W10.heap.size, [], 167, []⟩ dA (m * 1) (.slice r.A r.os.length r.c) := kd.cell (by rw [Nat.mul_one, cellsB_get hr])
       have sD : dA.isSome = true := by obtain ⟨a, h, _⟩ := qd; rw [h]; rfl
       have qb : CellAt ⟨W10, W10.heap.size, [], 167, []⟩ r.A (i * 1) (.bool (dbC nx m i)) := kr.cell (by rw [Nat.mul_one]; exact bsV_get hrb)
       have sR : r.A.isSome = true := by obtain ⟨a, h, _⟩ := qb; rw [h]; rfl
       have hsn : lpI nx i (p.pa.nx.take (k + 1)) = lpI nx i (p.pa.nx.take k) ++ (if dbC nx m i then [((i : Int), (m : Int))] else []) := by rw [takeI_snoc hz, lpI_snoc, hm1]
       have hat := fun h => lp_at (k := k) (N := nx.length) hnxi hz (by rw [hm1]; exact h) (by omega)
       have k64 : ArOk .add .i64 (k : Int) 1 ((k + 1 : Nat) : Int) := ArOk.to (by omega) (by omega) (by omega)
       rw [hk1]
       have hgo : ∀ a W (F : List (Nat × SV)) (n1 : Nat), n1 = (lpT nx i).length + (lpI nx i (p.pa.nx.take (k + 1))).length → leF 0 F [(5, .val (.slice dA rs.length dc)), (7, .val (.slice lA (lpT nx nx.length).length lc)), (9, .val (.slice qA qs.length qc)), (11, .val (.int .i64 (n1 : Int))), (15, .val (.int .i64 (i : Int))), (16, .val (.int .i64 ((k + 1 : Nat) : Int)))] → Rep ⟨W10, W10.heap.size, [], 167, []⟩ { F := F, H := [] } a W → I4 a W := fun a W F n1 hn1 hF rep => again4 (k + 1) (by show k + 1 ≤ _; omega) (by show _ - (k + 1) < _ - k; omega) a W (rep.le (by rw [← hn1]; exact hF) (by (simp only [setn, List.nil_append, List.cons_append, leF, leH_nil, leH_cons, leF_nil, lk, scp, scpL, scpO, resF, resH, resO, resV, resVL, nth, Nat.reduceBEq, Nat.reduceLT, decide_true, decide_false, List.length, List.length_cons, List.length_nil, Nat.reduceAdd, Bool.and_self, Bool.and_true, and_true, true_and, numF] <;> try simp)))
       rw [hsn, List.length_append] at hgo
       have hzn : (lpT nx i).length + (lpI nx i (p.pa.nx.take k)).length ≤ 8000 := by omega
       generalize (lpI nx i (p.pa.nx.take k)).length = n2 at hat hgo hzn
       rw [← Nat.add_assoc] at hgo
       generalize hn0 : (lpT nx i).length + n2 = n0 at hat hgo hzn
       have hn01 : ((n0 : Nat) : Int).toNat = n0 := by omega
       refine ⟨bdq, sQ, _, _, _, q2, ⟨by omega, by omega, sN⟩, _, qz, ⟨by omega, by omega, sD⟩, r.A, r.os.length, r.c, by rw [hm1]; exact qd, ⟨by omega, by omega, sR⟩, _, qb, fun hb => ⟨_, k64, lend_rule fun a W rep => hgo a W _ n0 ?_ (by (simp only [setn, List.nil_append, List.cons_append, leF, leH_nil, leH_cons, leF_nil, lk, scp, scpL, scpO, resF, resH, resO, resV, resVL, nth, Nat.reduceBEq, Nat.reduceLT, decide_true, decide_false, List.length, List.length_cons, List.length_nil, Nat.reduceAdd, Bool.and_self, Bool.and_true, and_true, true_and, numF] <;> try simp)) rep⟩, fun hb => ?_⟩
       ·have hb : dbC nx m i = false := by simpa using hb
        rw [hb]; simp
       ·have hb : dbC nx m i = true := by simpa using hb
        have hz0 := hat hb
        have hz1 := (List.getElem?_eq_some_iff.1 hz0).1
        have l0 : CellAt ⟨W10, W10.heap.size, [], 167, []⟩ lA (n0 * 2) (.int .i64 (i : Int)) := kl.cell (by have := prV_get (k := 0) hz0 (by omega); rw [Nat.add_zero] at this; rw [this]; rfl)
        have l1 : CellAt ⟨W10, W10.heap.size, [], 167, []⟩ lA (n0 * 2 + 1) (.int .i64 (m : Int)) := kl.cell (by rw [prV_get hz0 (by omega)]; rfl)
        have sL : lA.isSome = true := by obtain ⟨a, h, _⟩ := l0; rw [h]; rfl
        have bdl : (0 : Int) ≤ (n0 : Int) ∧ (n0 : Int) < ((lpT nx nx.length).length : Int) ∧ lA.isSome = true := ⟨by omega, by omega, sL⟩
        rw [hn01]
        refine ⟨fun h => absurd (of_decide_eq_true h) (by omega), fun _ => ⟨bdl, ⟨by decide, by decide, sL⟩, _, l0, fun h => absurd h (by simp), fun _ => ⟨bdl, ⟨by decide, by decide, sL⟩, _, l1, fun h => absurd h (by simp), fun _ => ⟨((n0 + 1 : Nat) : Int), ArOk.to (by omega) (by omega) (by omega), _, k64, lend_rule fun a W rep => hgo a W _ (n0 + 1) ?_ (by (simp only [setn, List.nil_append, List.cons_append, leF, leH_nil, leH_cons, leF_nil, lk, scp, scpL, scpO, resF, resH, resO, resV, resVL, nth, Nat.reduceBEq, Nat.reduceLT, decide_true, decide_false, List.length, List.length_cons, List.length_nil, Nat.reduceAdd, Bool.and_self, Bool.and_true, and_true, true_and, numF] <;> try simp)) rep⟩⟩⟩⟩
        rw [hb]; rfl
      ·have hke : k = p.pa.nx.length := by have := of_decide_eq_false hgek; omega
       subst hke
       refine ⟨_, ArOk.to (r := ((i + 1 : Nat) : Int)) (by omega) (by omega) (by omega), lend_rule fun a W rep => again3 (i + 1) (by show i + 1 ≤ _; omega) (by show _ - (i + 1) < _ - i; omega) a W (rep.le ?_ (by (simp only [setn, List.nil_append, List.cons_append, leF, leH_nil, leH_cons, leF_nil, lk, scp, scpL, scpO, resF, resH, resO, resV, resVL, nth, Nat.reduceBEq, Nat.reduceLT, decide_true, decide_false, List.length, List.length_cons, List.length_nil, Nat.reduceAdd, Bool.and_self, Bool.and_true, and_true, true_and, numF] <;> try simp)))⟩
       rw [List.take_length, ← List.length_append, ← hstep]
       (simp only [setn, List.nil_append, List.cons_append, leF, leH_nil, leH_cons, leF_nil, lk, scp, scpL, scpO, resF, resH, resO, resV, resVL, nth, Nat.reduceBEq, Nat.reduceLT, decide_true, decide_false, List.length, List.length_cons, List.length_nil, Nat.reduceAdd, Bool.and_self, Bool.and_true, and_true, true_and, numF] <;> try simp)
    ·have hie : i = qs.length := by have := of_decide_eq_false hge; omega
     subst hie
     rw [hqn2]
     refine ret_rule (vs := [.bool true]) r5 rfl ?_ fun W hW => hR _ _ ⟨Fresh.tr fw hW.fresh', rfl⟩
     show some [Value.bool (((lpT nx nx.length).length : Int) == ((lpT nx nx.length).length : Int))] = _
     simp
end Go.Proofs.YtgghmmjoplddbaaDoor
