/- The document's Of. -/
import Derived.Test.YtbkpiljencaoeaaGrT8
import Derived.Test.YtbkpiljencaoeaaGrCodeT
set_option linter.unusedSimpArgs false
set_option linter.unusedVariables false
set_option linter.unnecessarySimpa false
namespace Go.Proofs.Ytbkpiljencaoeaa
open Go Go.Sx Go.Hs Go.Gr
set_option maxRecDepth 100000
theorem refof19 (A : Option Addr) (c : Nat) (h : List Ev) (w : World) (hA : RowAt w A (cellsE h)) (hl : h.length ≤ 1000) :
  CallsV Try.prog 19 [.slice A h.length c] w fun v w' => OfR h v w' ∧ Fresh w w' := by
 refine calls_go (keep := K19) (nt := 96) (svs := [.val (.slice A h.length c)]) Try.func19 x19 n19 (by simp) (by simp [IsL, Is]) fun R hR => ?_
 (refine Y_go 600 ?_; dsimp only [X19, numF, Nat.reduceAdd, zq9r, zq9q, Y_k, zq4u, zq8p, zq6q, YK, zq8t, zq6u, zq9i, normF, zq6n, Nat.reduceBEq, zq6l, zq6k, zq6m, zq86, zq87, zq9y, t19n17, T19n17, zq8o, zq9j])
 refine call_base (vs := [.slice A h.length c]) rfl (R := fun W v w' => ComP h v w' ∧ Fresh W w') (fun W hW => refcommitted33 A c h W (hA.keep hW.fresh') hl) (fun _ _ _ hr => hr.2) fun W v W' hW ⟨hr, _⟩ ov => ?_
 rcases hr with ⟨hs, hv⟩ | ⟨z, B, bc, hs, hzl, hv, hat⟩
 ·refine ⟨.tup [.val (.slice none 0 0), .val (.int .i64 120)], by rw [hv]; simp [Is, IsL], ?_⟩
  dsimp only [zq8t]
  (refine Y_go 600 ?_; dsimp only [Y_k, zq4u, zq8o, zq6n, Nat.reduceBEq, zq6k, YK, zq8t, zq5j, zq2f, nth, zq2e, zq6l, zq9i, normF, zq6m, zq86, zq87, zq9y, t19n16, T19n16, zq9r, zq9q, zq50, zq8p, zq6q, zq04, zq92, zq9b, zq0i, zq9d, zq9s, zq6h, zq8x, YC, t19n0, T19n0, zq6u, zq89, zq9x, zq9p, t19n15, T19n15, zq8a, t19n14, T19n14, zq9t, zq9v])
  refine ⟨fun _ => ?_, fun hb => absurd hb (by decide)⟩
  exact ret_rule (vs := [.int .i64 0, .slice none 0 0, .int .i64 120]) r19 rfl rfl fun W hW => hR _ _ ⟨.inl ⟨hs, rfl⟩, (ov.heap hW).fresh'⟩
 refine ⟨.tup [.val (.slice B z.length bc), .val (.int .i64 0)], by rw [hv]; simp [Is, IsL], ?_⟩
 obtain ⟨hrow, hats⟩ := hat
 generalize hq : z.map (·.1) = l at hs
 have hlz : l.length = z.length := by rw [← hq, List.length_map]
 have hget : ∀ i (hi : i < z.length), l.getD i default = z[i].1 := fun i hi => by
  rw [← hq, List.getD_eq_getElem?_getD, List.getElem?_map, List.getElem?_eq_getElem hi]; rfl
 have hz := rowE0 hrow 96 []
 have sB : 0 < z.length → B.isSome = true := fun h => hrow.isSome (j := 0) (by rw [cellsTs_len]; omega)
 have hpl : ∀ p ∈ z, p.1.loads.length ≤ 1000000 ∧ p.1.stores.length ≤ 1000000 := fun p hp => by
  have := comO_lens hs p.1 (by rw [← hq]; exact List.mem_map_of_mem hp)
  omega
 have cl : ∀ i (hi : i < z.length) k v, (cellsT z[i].1 z[i].2)[k]? = some v → CellAt ⟨W', W'.heap.size, [], 96, []⟩ B ((i : Int).toNat * 11 + k) v := by
  intro i hi k v hk
  have := (List.getElem?_eq_some_iff.1 hk).1
  rw [Int.toNat_natCast]
  exact hz.cell (by rw [cellsTs_get z hi this]; exact hk)
 dsimp only [zq8t]
 (refine Y_go 600 ?_; dsimp only [Y_k, zq4u, zq8o, zq6n, Nat.reduceBEq, zq6k, YK, zq8t, zq5j, zq2f, nth, zq2e, zq6l, zq9i, normF, zq6m, zq86, zq87, zq9y, t19n16, T19n16, zq9r, zq9q, zq50, zq8p, zq6q, zq04, zq92, zq9b, zq0i, zq9d, zq9s, zq6h, zq8x, YC, t19n0, T19n0, zq6u, zq89, zq9x, zq9p, t19n15, T19n15, zq8a, t19n14, T19n14, zq9t, zq9v])
 refine ⟨fun hb => absurd hb (by decide), fun _ => ?_⟩
 refine loop_go (α := Nat × Option Addr × Nat) (fun q => q.1 ≤ z.length) (fun _ => ⟨W', W'.heap.size, [], 96, []⟩)
  (fun q => { F := [(5, .val (.slice B z.length bc)), (7, .own 0 0), (8, .val (.int .i64 q.1))], H := [.own 28 0 2 q.2.1 (edAll l q.1).length q.2.2 (cellsD (edAll l q.1))] }) (fun q => z.length - q.1) (fun _ => rfl) ?start ?round
 case start =>
  intro a W rep
  exact ⟨(0, none, 0), Nat.zero_le _, (rep.adopt 7 28 2 rfl).le (by (simp only [setn, List.nil_append, List.cons_append, leF, leH_nil, leH_cons, leF_nil, lk, scp, scpL, scpO, resF, resH, resO, resV, resVL, nth, Nat.reduceBEq, Nat.reduceLT, decide_true, decide_false, List.length, List.length_cons, List.length_nil, Nat.reduceAdd, Bool.and_self, Bool.and_true, and_true, true_and, numF] <;> try simp)) (by (simp only [setn, List.nil_append, List.cons_append, leF, leH_nil, leH_cons, leF_nil, lk, scp, scpL, scpO, resF, resH, resO, resV, resVL, nth, Nat.reduceBEq, Nat.reduceLT, decide_true, decide_false, List.length, List.length_cons, List.length_nil, Nat.reduceAdd, Bool.and_self, Bool.and_true, and_true, true_and, numF] <;> try simp); exact ⟨rfl, rfl⟩)⟩
 case round =>
  rintro ⟨i, D, dc⟩ hi I again
  simp only at hi ⊢
  (refine Y_go 600 ?_; dsimp only [zq9y, t19n12, T19n12, zq9r, zq9q, Y_k, zq4u, zq8o, zq6n, Nat.reduceBEq, zq6l, zq6k, YK, zq8t, zq55, zq0r, zq50, zq04, zq92, zq9b, zq0i, zq9e, zq9i, normF, zq6m, zq86, zq87, zq8f, zq9s, zq6h, zq8x, YC, zq9p, t19n11, T19n11, zq9t, zq8p, zq6q, zq89, zq9v, zq9u, popTo, zq6i, YP, t19n13, T19n13, zq8a, zq9x])
  refine ⟨fun hlt => ?_, fun hge => ?_⟩
  rotate_left
  ·have hie : i = z.length := by have := of_decide_eq_false hge; omega
   subst hie
   rw [← hlz]
   refine ret_rule (vs := [.int .i64 l.length, .slice D (edAll l l.length).length dc, .int .i64 0]) r19 rfl rfl fun W hW => hR _ _ ⟨.inr ⟨l, D, dc, hs, rfl, hW.rowAt' (i := 0) rfl⟩, (ov.heap hW).fresh'⟩
  have hlt : i < z.length := by have := of_decide_eq_true hlt; omega
  refine loop_go (α := Nat × Option Addr × Nat) (fun q => q.1 ≤ z.length) (fun _ => ⟨W', W'.heap.size, [], 96, []⟩)
   (fun q => { F := [(5, .val (.slice B z.length bc)), (7, .own 0 0), (8, .val (.int .i64 i)), (9, .val (.int .i64 q.1))], H := [.own 28 0 2 q.2.1 (edAll l i ++ edRow l i q.1).length q.2.2 (cellsD (edAll l i ++ edRow l i q.1))] }) (fun q => z.length - q.1) (fun _ => rfl) ?start2 ?round2
  case start2 =>
   intro a W rep
   refine ⟨(0, D, dc), Nat.zero_le _, ?_⟩
   simp only [show edAll l i ++ edRow l i 0 = edAll l i from List.append_nil _]
   exact rep.le (by (simp only [setn, List.nil_append, List.cons_append, leF, leH_nil, leH_cons, leF_nil, lk, scp, scpL, scpO, resF, resH, resO, resV, resVL, nth, Nat.reduceBEq, Nat.reduceLT, decide_true, decide_false, List.length, List.length_cons, List.length_nil, Nat.reduceAdd, Bool.and_self, Bool.and_true, and_true, true_and, numF] <;> try simp)) (by (simp only [setn, List.nil_append, List.cons_append, leF, leH_nil, leH_cons, leF_nil, lk, scp, scpL, scpO, resF, resH, resO, resV, resVL, nth, Nat.reduceBEq, Nat.reduceLT, decide_true, decide_false, List.length, List.length_cons, List.length_nil, Nat.reduceAdd, Bool.and_self, Bool.and_true, and_true, true_and, numF] <;> try simp))
  case round2 =>
   rintro ⟨k, D, dc⟩ hk I2 again2
   simp only at hk ⊢
   (refine Y_go 600 ?_; dsimp only [zq9y, t19n9, T19n9, zq9r, zq9q, Y_k, zq4u, zq8o, zq6n, Nat.reduceBEq, zq6l, zq6k, YK, zq8t, zq55, zq0r, zq50, zq04, zq92, zq9b, zq0i, zq9e, zq9i, normF, zq6m, zq86, zq87, zq8f, zq9s, zq6h, zq8x, YC, zq9p, t19n8, T19n8, zq9t, zq58, zq06, zq0w, zq5c, zq1p, zq1c, List.nil_append, List.cons_append, zq1g, zq1d, zq1b, zq17, zq5e, List.length_cons, List.length_nil, Nat.reduceAdd, List.map, zq6q, zq6u, zq6p, zq5d, zq7t, zq8l, zq73, zq8m, zq77, zq7g, zq8k, zq0a, zq1x, nth, zq1t, dropL, takeL, zq1r, splice, setn, zq8s, zq89, zq8c, t19n6, T19n6, t19n5, T19n5, zq5a, zq14, zq1o, zq1k, zq19, zq18, zq9g, t19n4, T19n4, Nat.add_zero, zq9c, Y_gk, zq6d, YR, zq69, zq4v, zq8p, zq0b, t19n3, T19n3, zq9l, YG, YS, zq6b, zq03, zq0c, zq8a, t19n2, T19n2, zq9d, zq6e, zq6o, zq6a, zq6f, t19n1, T19n1, zq5g, zq21, zq7u, zq20, zq22, zq25, zq5h, repL, zq23, Nat.reduceMul, zq24, zq26, zq5l, zq2w, zq09, zq08, zq2s, zq2r, zq2n, zq2j, zq2k, denL, den, zq2l, zq2h, zqa1, t19n7, T19n7, zq4w, zq0e, zqa2, zq6g, zq6c, zq9u, popTo, zq6i, YP, t19n10, T19n10])
   refine ⟨fun hlt2 => ?_, fun hge => ?_⟩
   rotate_left
   ·have hke : k = z.length := by have := of_decide_eq_false hge; omega
    subst hke
    refine ⟨((i + 1 : Nat) : Int), ArOk.to (by omega) (by omega) (by omega), lend_rule fun a W rep => again (i + 1, D, dc) hlt (by show z.length - (i + 1) < z.length - i; omega) a W ?_⟩
    have e : edAll l (i + 1) = edAll l i ++ edRow l i z.length := by rw [edAll_succ, hlz]
    simp only [e]
    exact rep.le (by (simp only [setn, List.nil_append, List.cons_append, leF, leH_nil, leH_cons, leF_nil, lk, scp, scpL, scpO, resF, resH, resO, resV, resVL, nth, Nat.reduceBEq, Nat.reduceLT, decide_true, decide_false, List.length, List.length_cons, List.length_nil, Nat.reduceAdd, Bool.and_self, Bool.and_true, and_true, true_and, numF] <;> try simp)) (by (simp only [setn, List.nil_append, List.cons_append, leF, leH_nil, leH_cons, leF_nil, lk, scp, scpL, scpO, resF, resH, resO, resV, resVL, nth, Nat.reduceBEq, Nat.reduceLT, decide_true, decide_false, List.length, List.length_cons, List.length_nil, Nat.reduceAdd, Bool.and_self, Bool.and_true, and_true, true_and, numF] <;> try simp))
   have hlt2 : k < z.length := by have := of_decide_eq_true hlt2; omega
   have hxi := hget i hlt
   have hxs := hats _ (List.getElem_mem hlt)
   have lx := hpl _ (List.getElem_mem hlt)
   have cx := cl i hlt
   generalize z[i] = px at hxi hxs lx cx
   obtain ⟨x, hx⟩ := px
   simp only at hxi hxs lx cx
   refine ⟨⟨by omega, by omega, sB (by omega)⟩, _, cx 0 _ rfl, _, cx 1 _ rfl, _, cx 2 _ rfl, _, cx 3 _ rfl, _, cx 4 _ rfl, _, cx 5 _ rfl, _, cx 6 _ rfl, ?_⟩
   refine ⟨_, _, _, cx 7 _ rfl, _, _, _, cx 8 _ rfl, _, cx 9 _ rfl, _, cx 10 _ rfl, ?_⟩
   intro ga
   have hyi := hget k hlt2
   have hys := hats _ (List.getElem_mem hlt2)
   have ly := hpl _ (List.getElem_mem hlt2)
   have cy := cl k hlt2
   generalize z[k] = py at hyi hys ly cy
   obtain ⟨y, hy⟩ := py
   simp only at hyi hys ly cy
   refine ⟨⟨by omega, by omega, sB (by omega)⟩, _, cy 0 _ rfl, _, cy 1 _ rfl, _, cy 2 _ rfl, _, cy 3 _ rfl, _, cy 4 _ rfl, _, cy 5 _ rfl, _, cy 6 _ rfl, ?_⟩
   refine ⟨_, _, _, cy 7 _ rfl, _, _, _, cy 8 _ rfl, _, cy 9 _ rfl, _, cy 10 _ rfl, ?_⟩
   intro gb
   have hb : edB l i k = (decide (i ≠ k) && edC x y) := by unfold edB; rw [hxi, hyi]
   have hle1 : (edAll l i).length ≤ 500 * 500 := Nat.le_trans (edAll_len l i) (Nat.mul_le_mul (by omega) (by omega))
   have hle2 := edRow_len l i k
   have hcap : (edAll l i ++ edRow l i k).length + 1 ≤ maxLen ∧ ((edAll l i ++ edRow l i k).length + 1) * 16 ≤ 140737488355328 := by
    rw [List.length_append]; simp only [maxLen]; omega
   have hadd : ArOk .add .i64 (k : Int) 1 ((k + 1 : Nat) : Int) := ArOk.to (by omega) (by omega) (by omega)
   have hnk := edRow_succ l i k
   have yes : edB l i k = true → edAll l i ++ edRow l i (k + 1) = (edAll l i ++ edRow l i k) ++ [((i : Int), (k : Int))] := fun h => by rw [hnk, h, if_pos rfl, List.append_assoc]
   have no : edB l i k = false → edAll l i ++ edRow l i (k + 1) = edAll l i ++ edRow l i k := fun h => by rw [hnk, h]; simp
   have go : ∀ D2 dc2 L, edAll l i ++ edRow l i (k + 1) = L → ∀ (a : Act) (W : World), Rep ⟨W', W'.heap.size, [], 96, []⟩ { F := [(5, .val (.slice B z.length bc)), (7, .own 0 0), (8, .val (.int .i64 i)), (9, .val (.int .i64 ((k + 1 : Nat) : Int)))], H := [.own 28 0 2 D2 L.length dc2 (cellsD L)] } a W → I2 a W := by
    intro D2 dc2 L hL a W rep
    refine again2 (k + 1, D2, dc2) hlt2 (by show z.length - (k + 1) < z.length - k; omega) a W ?_
    simp only [hL]; exact rep
   generalize edAll l i ++ edRow l i k = L0 at *
   have eL : ∀ p : Ed, cellsD (L0 ++ [p]) = cellsD L0 ++ [.int .i64 p.1, .int .i64 p.2] := fun p => by simp [cellsD, edV]
   have eS : ∀ p : Ed, (L0 ++ [p]).length = L0.length + 1 := fun p => by simp
   have hE : edB l i k = (((i : Int) != (k : Int)) && (decide (y.frm > x.to) || ((x.core == y.core) && decide (y.frm > x.frm)) || (decide (x.point < y.point) && (clsR x y || clsR y x)))) := by
    rw [hb]
    unfold edC
    rw [cls_eq]
    have e1 : decide (i ≠ k) = ((i : Int) != (k : Int)) := by
     by_cases e : i = k
     ·subst e; simp
     ·rw [decide_eq_true e]
      have : ((i : Int) != (k : Int)) = true := by simp; omega
      rw [this]
    have e2 : decide (x.core = y.core) = (x.core == y.core) := rfl
    rw [e1, e2]
   have hc1 : ∀ W, Fresh W' W → CallsV Try.prog 34 [valT x hx, valT y hy] W fun v w' => v = .bool (clsR x y) ∧ Fresh W w' := fun W hf => refclash34 x y hx hy W (hxs.2.keep hf) (hys.1.keep hf) (hys.2.keep hf) lx.2 ly.1 ly.2
   have hc2 : ∀ W, Fresh W' W → CallsV Try.prog 34 [valT y hy, valT x hx] W fun v w' => v = .bool (clsR y x) ∧ Fresh W w' := fun W hf => refclash34 y x hy hx W (hys.2.keep hf) (hxs.1.keep hf) (hxs.2.keep hf) ly.2 lx.1 lx.2
   clear hb again again2 cl cx cy hget hpl
   generalize decide (y.frm > x.to) = tm at *
   generalize (x.core == y.core) = co at *
   generalize decide (y.frm > x.frm) = cf at *
   generalize decide (x.point < y.point) = pt at *
   generalize clsR x y = c1 at *
   generalize clsR y x = c2 at *
   repeat' first
    | (refine ⟨fun q => ?_, fun q => ?_⟩ <;> first | subst q | rw [q] at hE)
    | (refine fun g => ⟨hcap, fun D2 dc2 => ⟨_, hadd, lend_rule fun a W rep => go D2 dc2 _ (yes (by rw [hE]; first | rfl | (cases co <;> rfl) | (cases tm <;> rfl) | (cases cf <;> rfl) | simp)) a W ?_⟩⟩
       rw [eL, eS]
       exact rep.res.le (by (simp only [setn, List.nil_append, List.cons_append, leF, leH_nil, leH_cons, leF_nil, lk, scp, scpL, scpO, resF, resH, resO, resV, resVL, nth, Nat.reduceBEq, Nat.reduceLT, decide_true, decide_false, List.length, List.length_cons, List.length_nil, Nat.reduceAdd, Bool.and_self, Bool.and_true, and_true, true_and, numF] <;> try simp)) (by simp only [svL]; (simp only [setn, List.nil_append, List.cons_append, leF, leH_nil, leH_cons, leF_nil, lk, scp, scpL, scpO, resF, resH, resO, resV, resVL, nth, Nat.reduceBEq, Nat.reduceLT, decide_true, decide_false, List.length, List.length_cons, List.length_nil, Nat.reduceAdd, Bool.and_self, Bool.and_true, and_true, true_and, numF] <;> try simp)))
    | (refine ⟨_, hadd, lend_rule fun a W rep => go D dc _ (no (by rw [hE]; first | rfl | simp)) a W ?_⟩
       exact rep.le (by (simp only [setn, List.nil_append, List.cons_append, leF, leH_nil, leH_cons, leF_nil, lk, scp, scpL, scpO, resF, resH, resO, resV, resVL, nth, Nat.reduceBEq, Nat.reduceLT, decide_true, decide_false, List.length, List.length_cons, List.length_nil, Nat.reduceAdd, Bool.and_self, Bool.and_true, and_true, true_and, numF] <;> try simp)) (by simp only [svL]; (simp only [setn, List.nil_append, List.cons_append, leF, leH_nil, leH_cons, leF_nil, lk, scp, scpL, scpO, resF, resH, resO, resV, resVL, nth, Nat.reduceBEq, Nat.reduceLT, decide_true, decide_false, List.length, List.length_cons, List.length_nil, Nat.reduceAdd, Bool.and_self, Bool.and_true, and_true, true_and, numF] <;> try simp)))
    | (refine call_val (R := fun v => v = .bool c1) (vs := [valT x hx, valT y hy]) rfl (fun W hW => hc1 W hW.fresh') fun v hv => ?_
       refine ⟨.val (.bool c1), by rw [hv]; simp [Is], ?_⟩
       dsimp only [zq8t]
       (refine Y_go 600 ?_; dsimp only [Y_gk, zq6n, Nat.reduceBEq, zq6l, zq6k, zq69, YR, zq4u, zq8o, YK, zq8t, zq6e, YS, zq6a, zq9l, zq4v, zq8p, zq6o, zq0b, Y_k, zq6p, zq9i, normF, zq6m, zq86, zq89, zq87, zq8c, zq8f, zq9y, t19n2, T19n2, zq9r, zq9q, zq50, zq04, zq92, zq9b, zq0i, zq9d, zq6d, zq9s, zq6f, YC, t19n1, T19n1, zq5g, List.map, zq6q, zq21, zq7u, zq73, zq0a, dropL, takeL, zq20, splice, setn, zq22, zq25, zq5h, repL, List.cons_append, List.nil_append, zq23, Nat.reduceMul, zq7t, List.length_cons, List.length_nil, Nat.reduceAdd, zq8l, zq8m, zq8k, zq24, zq26, zq5l, zq2w, nth, zq09, zq08, zq2s, zq2r, zq2n, zq2j, zq2k, denL, den, zq2l, zq2h, zqa1, t19n7, T19n7, zq4w, zq0e, zqa2, zq0c, zq6b, zq03, zq8a, zq6g, zq9p, zq5c, zq1o, zq1k, zq19, zq17, zq6c, YG]))
    | (refine call_val (R := fun v => v = .bool c2) (vs := [valT y hy, valT x hx]) rfl (fun W hW => hc2 W hW.fresh') fun v hv => ?_
       refine ⟨.val (.bool c2), by rw [hv]; simp [Is], ?_⟩
       dsimp only [zq8t]
       (refine Y_go 600 ?_; dsimp only [Y_gk, zq6n, Nat.reduceBEq, zq6l, zq6k, zq69, YR, zq4v, zq8p, zq6o, zq8o, zq0c, YK, zq8t, Y_k, zq6p, zq0b, zq4u, zq9i, normF, zq6m, zq86, zq89, zq87, zq8c, zq8f, zq9y, t19n2, T19n2, zq9r, zq9q, zq50, zq04, zq92, zq9b, zq0i, zq9d, zq6d, zq6e, YS, zq6a, zq9s, zq6f, YC, t19n1, T19n1, zq5g, List.map, zq6q, zq21, zq7u, zq73, zq0a, dropL, takeL, zq20, splice, setn, zq22, zq25, zq5h, repL, List.cons_append, List.nil_append, zq23, Nat.reduceMul, zq7t, List.length_cons, List.length_nil, Nat.reduceAdd, zq8l, zq8m, zq8k, zq24, zq26, zq5l, zq2w, nth, zq09, zq08, zq2s, zq2r, zq2n, zq2j, zq2k, denL, den, zq2l, zq2h, zqa1, t19n7, T19n7, zq4w, zq0e, zqa2, zq6h, zq8x, zq9p, zq8a, zq6b, zq03, zq6g, zq6c]))
    | fail
end Go.Proofs.Ytbkpiljencaoeaa
