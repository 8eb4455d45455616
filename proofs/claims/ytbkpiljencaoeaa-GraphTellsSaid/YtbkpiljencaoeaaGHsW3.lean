/- hist: an attempt hears an event. -/
import Derived.Test.YtbkpiljencaoeaaGHsW2
import Derived.Test.YtbkpiljencaoeaaGHsCode
set_option linter.unusedSimpArgs false
set_option linter.unusedVariables false
set_option linter.unnecessarySimpa false
namespace Go.Proofs.Ytbkpiljencaoeaa
open Go Go.Sx Go.Hs
set_option maxRecDepth 100000
theorem load_lane (x : At) (e : Ev) : (loadA x e).lane = x.lane := by
 unfold loadA
 repeat' split
 all_goals rfl
theorem load_hard (x : At) (e : Ev) : hardB (loadA x e) = hardB x := by unfold hardB; rw [load_lane]
theorem cellsPr_set : ∀ (l : List Pr) (j : Nat) (a v : Int), j < l.length → (l.getD j (0, 0)).1 = a → setn (cellsPr l) (j * 2 + 1) (.int .u64 v) = cellsPr (l.set j (a, v))
 | p :: l, 0, a, v, _, h => by
  simp at h; subst h; rfl
 | p :: l, j + 1, a, v, hj, h => by
  have ih := cellsPr_set l j a v (by simpa using hj) (by simpa using h)
  have e : (j + 1) * 2 + 1 = (j * 2 + 1) + 2 := by omega
  rw [e]
  show setn (Value.int .i64 p.1 :: Value.int .u64 p.2 :: cellsPr l) (j * 2 + 1 + 1 + 1) _ = _
  simp only [setn]
  rw [ih]; rfl
theorem hear70 {E0 : Env} {W : World} (x : At) (h : Hd) (n : Int) (e : Ev) (hl : x.loads.length ≤ 1000000) (hs : x.stores.length ≤ 1000000) (hW : HeapOk E0 (quad 114 85 x h) W) :
  CallsV Try.prog 63 [ptrH h, .int .i64 n, e.val] W fun v W' => v = .tuple #[] ∧ ∃ h' : Hd, h'.g = h.g ∧ h'.t = h.t ∧ HeapOk E0 (quad 114 85 (hearA x n e) h') W' := by
 obtain ⟨b0, N, st, nt0, mk0⟩ := E0
 refine calls_lent (keep := K63) (nt := 106) (svs := [.ptr 0 0, .val (.int .i64 n), .agg e.sv]) Try.func63 x63 n63 (by simp) hW ?_ fun R hR => ?_
 ·simp only [IsL]
  exact ⟨_, _, by simp only [Is]; exact ⟨_, rfl, rfl⟩, ⟨_, _, by simp only [Is], ⟨_, _, Ev.is _ e, rfl, rfl⟩, rfl⟩, rfl⟩
 have back : ∀ {y : At} {h' : Hd} {W : World}, y = hearA x n e → h'.g = h.g → h'.t = h.t → HeapOk ⟨b0, N, st, 106, []⟩ (quad 114 85 y h') W → R (.tuple #[]) W := by
  intro y h' W hy h1 h2 hW
  subst hy
  exact hR _ _ ⟨rfl, h', h1, h2, HeapOk.env (E := ⟨b0, N, st, 106, []⟩) (E' := ⟨b0, N, st, nt0, mk0⟩) rfl rfl rfl hW⟩
 have finE : ∀ (F : List (Nat × SV)) (y : At) (h' : Hd) (r : List SO), y = hearA x n e → h'.g = h.g → h'.t = h.t → G (cxOf Try.prog Try.f63 K63 T63 R) ⟨b0, N, st, 106, []⟩ [] { F := F, H := quad 114 85 y h' ++ r } := fun F y h' r hy h1 h2 =>
  end_rule (vs := []) r63 rfl rfl fun W hW => back hy h1 h2 (HeapOk.pre hW fun e he => scpO_mono (quad_shut _ _ _ _ e he))
 have finS : ∀ (F : List (Nat × SV)) (y : At) (h' : Hd) (r : List SO), y = hearA x n e → h'.g = h.g → h'.t = h.t → G (cxOf Try.prog Try.f63 K63 T63 R) ⟨b0, N, st, 106, []⟩ [] { F := F, H := quadS y h' ++ r } := fun F y h' r hy h1 h2 a W rep =>
  finE [] y h' [] hy h1 h2 a W (quad_row rep)
 have finR : ∀ (F : List (Nat × SV)) (y : At) (h' : Hd) (r : List SO), y = hearA x n e → h'.g = h.g → h'.t = h.t → RetG (cxOf Try.prog Try.f63 K63 T63 R) ⟨b0, N, st, 106, []⟩ { F := F, H := quadS y h' ++ r } := fun F y h' r hy h1 h2 a W rep =>
  ret_rule (vs := []) r63 rfl rfl (fun W hW => back hy h1 h2 hW) a W (quad_row rep)
 have hard : ∀ {H : List SO} (y : At) (h' : Hd) (W : World), HeapOk ⟨b0, N, st, 106, []⟩ H W → nth H 0 = some (.row h'.g 114 (cellsA y h')) → CallsV Try.prog 75 [ptrH h'] W fun v w' => v = .bool (hardB y) ∧ Fresh W w' := fun y h' W hW hi =>
  hard56 y h' (some ⟨h'.g, 0, none⟩) W (hW.cellsRow hi)
 refine G.le (E' := ⟨b0, N, st, 106, []⟩) rfl (s' := { F := numF 0 [.ptr 0 0, .val (.int .i64 n), .agg e.sv], H := quadS x h }) (fun a W rep => quad_cells rep) ?_
 simp only [quadS, svA]
 (refine Y_go 600 ?_; dsimp only [X63, Ev.sv, numF, Nat.reduceAdd, zq9r, zq9q, Y_k, zq5f, zq8o, zq6n, Nat.reduceBEq, zq6l, zq6k, zq7t, List.length_cons, List.length_nil, zq8l, zq73, zq8m, zq8k, zq0a, zq1z, List.cons_append, List.nil_append, YK, zq8t, zq9i, normF, zq6m, zq86, zq8c, zq88, zq87, zq9y, t63n19, T63n19, zq5a, zq14, Nat.add_zero, zq5c, zq1o, nth, zq1k, dropL, takeL, zq19, zq18, t63n18, T63n18, zq9t, zq50, zq8p, zq6q, zq04, zq92, zq9b, zq0i, zq9c, zq4u, zq9s, zq6h, zq8x, YC, t63n2, T63n2, zq17, zq9j, t63n17, T63n17, zq8a, t63n7, T63n7, zq5i, zq29, zq64, den, zq4j, zq00, zq4i, setn, zq8s, zq89, t63n6, T63n6, t63n16, T63n16, t63n9, T63n9, t63n15, T63n15, t63n12, T63n12, zq5d, zq7u, zq1x, zq1t, zq1r, splice, zq6o, zq7v, zq7h, t63n11, T63n11, t63n14, T63n14, t63n13, T63n13, zq9m, zq9p, zqa1, zqa3])
 refine fun g => ⟨fun h2 => ?_, fun h2 => ⟨fun h3 => ?_, fun h3 => ⟨fun h4 => ?_, fun h4 => ⟨fun h5 => ?_, fun h5 => ⟨fun h6 => ?_, fun h6 => ?_⟩⟩⟩⟩⟩
 ·have h2 := eq_of_beq h2
  refine G.le (E' := ⟨b0, N, st, 106, []⟩) rfl (s' := { F := [(12, .agg e.sv), (11, .ptr 0 0), (0, .ptr 0 0), (1, .val (.int .i64 n))], H := quad 114 85 x h ++ [.cells g 53 e.sv] }) (fun a W rep => (rep.torow 0 (xs := cellsA x h) rfl rfl).le (by simp only [Ev.sv]; (simp only [setn, List.nil_append, List.cons_append, leF, leH_nil, leH_cons, leF_nil, lk, scp, scpL, scpO, resF, resH, resO, resV, resVL, nth, Nat.reduceBEq, Nat.reduceLT, decide_true, decide_false, List.length, List.length_cons, List.length_nil, Nat.reduceAdd, Bool.and_self, Bool.and_true, and_true, true_and, numF] <;> try simp)) (by simp only [quad, Ev.sv]; (simp only [setn, List.nil_append, List.cons_append, leF, leH_nil, leH_cons, leF_nil, lk, scp, scpL, scpO, resF, resH, resO, resV, resVL, nth, Nat.reduceBEq, Nat.reduceLT, decide_true, decide_false, List.length, List.length_cons, List.length_nil, Nat.reduceAdd, Bool.and_self, Bool.and_true, and_true, true_and, numF] <;> try simp))) ?_
  refine call_lent (quad 114 85 x h) [.cells g 53 e.sv] (vs := [ptrH h, .int .i64 n, e.val].eraseIdx 1) (fun v H1' => v = .tuple #[] ∧ ∃ h' : Hd, h'.g = h.g ∧ h'.t = h.t ∧ H1' = (quad 114 85 (loadA x e) h').map (verO 1)) rfl rfl (fun W _ hW => (load77 x h e hl hs hW).mono fun v W' ⟨hv, h', k1, k2, k3⟩ => ⟨_, ⟨hv, h', k1, k2, rfl⟩, ?_, rfl, k3.vers (quad_shut _ _ _ _) 1⟩) fun v H1' ⟨hv, h', k1, k2, hH⟩ => ⟨.tup [], by rw [hv]; simp [Is, IsL], ?_⟩
  ·exact extB_spec (by simp [extB, quad, verO, SO.blk, bump, k1, k2])
  subst hH
  refine G.le (E' := ⟨b0, N, st, 106, []⟩) rfl (s' := { F := [(0, .ptr 0 0), (1, .val (.int .i64 n))], H := quad 114 85 (loadA x e) h' ++ [.cells g 53 e.sv] }) (fun a W rep => rep.res.le (by simp only [quad, verO, Ev.sv, List.map_cons, List.map_nil, putF]; (simp only [setn, List.nil_append, List.cons_append, leF, leH_nil, leH_cons, leF_nil, lk, scp, scpL, scpO, resF, resH, resO, resV, resVL, nth, Nat.reduceBEq, Nat.reduceLT, decide_true, decide_false, List.length, List.length_cons, List.length_nil, Nat.reduceAdd, Bool.and_self, Bool.and_true, and_true, true_and, numF] <;> try simp)) (by simp only [quad, verO, Ev.sv, List.map_cons, List.map_nil]; (simp only [setn, List.nil_append, List.cons_append, leF, leH_nil, leH_cons, leF_nil, lk, scp, scpL, scpO, resF, resH, resO, resV, resVL, nth, Nat.reduceBEq, Nat.reduceLT, decide_true, decide_false, List.length, List.length_cons, List.length_nil, Nat.reduceAdd, Bool.and_self, Bool.and_true, and_true, true_and, numF] <;> try simp))) ?_
  simp only [quad, List.cons_append, List.nil_append]
  (refine Y_go 600 ?_; dsimp only [zq9i, normF, zq6n, Nat.reduceBEq, zq6k, zq6l, zq6m, zq86, zq87, zq8c, zq9y, t63n1, T63n1, zq9r, zq9q, Y_k, zq4u, zq8o, YK, zq8t, zq9j])
  refine call_val (R := fun v => v = .bool (hardB (loadA x e))) (vs := [ptrH h']) rfl (fun W hW => hard (loadA x e) h' W hW rfl) fun v hv => ⟨bsv (hardB (loadA x e)), by rw [hv]; cases hardB (loadA x e) <;> simp [Is, bsv], ?_⟩
  cases hh : hardB (loadA x e) with
  | true =>
   simp only [bsv]
   (refine Y_go 600 ?_; dsimp only [zq8t, zq9i, normF, zq6n, Nat.reduceBEq, zq6l, zq6k, zq6m, zq86, zq89, zq87, zq8c, zq9s, zq8o, zq6f, YC, zq9y, t63n0, T63n0, zq9q, Y_k, zq4u, YK, zq5i, zq29, zq5a, zq14, Nat.add_zero, Nat.reduceAdd, zq5d, zq7u, zq73, zq0a, zq1x, nth, zq1u, denL, den, zq1s, splice, setn, zq8s, zqa1, zqa3])
   refine ⟨by simp [cellsA], ?_⟩
   refine finE _ { loadA x e with point := n } h' _ ?_ k1 k2
   unfold hearA; rw [if_pos h2, ← load_hard x e, if_pos hh]
  | false =>
   simp only [bsv]
   (refine Y_go 600 ?_; dsimp only [zq8t, zq9i, normF, zq6n, Nat.reduceBEq, zq6l, zq6k, zq6m, zq86, zq8a, zq87, zq8c, zq9s, zq8o, zq6g, YC, zq9p, zqa1, zqa3])
   refine finE _ (loadA x e) h' _ ?_ k1 k2
   unfold hearA; rw [if_pos h2, ← load_hard x e, if_neg (by rw [hh]; simp)]
 ·have h3 := eq_of_beq h3
  have hh : hearA x n e = { x with touched := tch x.touched e.addr, stores := putS x.stores e.addr e.value } := by unfold hearA; rw [if_neg (by omega), if_pos h3]
  refine ⟨tcV_keys _, ?_⟩
  rw [mput_tc]
  refine call_val (R := fun v => v = .int .i64 (findI x.stores e.addr)) (vs := [.slice h.sA x.stores.length h.sc, .int .i64 e.addr]) rfl (fun W hW => find78 h.sA h.sc x.stores e.addr W (hW.rowAt' (i := 3) rfl) hs) fun v hv => ⟨.val (.int .i64 (findI x.stores e.addr)), by rw [hv]; simp [Is], ?_⟩
  (refine Y_go 600 ?_; dsimp only [zq8t, Y_k, zq4u, zq8o, zq6n, Nat.reduceBEq, zq6k, YK, zq9i, normF, zq6l, zq6m, zq86, zq89, zq8a, zq87, zq8c, zq88, zq9y, t63n4, T63n4, zq9r, zq9q, zq50, zq8p, zq6q, zq04, zq92, zq9b, zq0i, zq9h, zq9s, zq6h, zq8x, YC, t63n3, T63n3, zq5i, zq29, zq5a, zq14, Nat.add_zero, Nat.reduceAdd, zq5c, zq1o, nth, zq1k, List.length_cons, List.length_nil, dropL, takeL, zq19, zq18, zq58, zq06, zq0y, zq09, zq08, zq0v, zq15, zq13, zq5d, zq7u, zq73, zq0a, zq1y, zq1w, denL, den, zq1v, splice, setn, zq8s, zq9x, zq9p, t63n5, T63n5, zq5g, List.map, zq21, zq20, zq22, zq25, zq5h, repL, List.cons_append, List.nil_append, zq23, Nat.reduceMul, zq7t, zq8l, zq8m, zq8k, zq24, zq26, zq5l, zq2w, zq2s, zq2r, zq2n, zq2j, zq2k, zq2l, zq2h, zq81, zq7n, zq1x, zq1t, zq1r, zqa1, zqa3])
  refine ⟨fun hge => ?_, fun hge => ?_⟩
  ·rw [findI_nn] at hge
   obtain ⟨j, hj⟩ := Option.isSome_iff_exists.1 hge
   have hfi : findI x.stores e.addr = (j : Int) := by unfold findI; rw [hj]
   obtain ⟨hj1, hj2, _⟩ := findN_some hj
   refine ⟨by omega, by rw [hfi, cellsPr_len]; omega, ?_⟩
   rw [hfi, Int.toNat_natCast, cellsPr_set _ _ _ _ hj1 hj2]
   have hp : putS x.stores e.addr e.value = x.stores.set j (e.addr, e.value) := by unfold putS; rw [hj]
   have hlen : (x.stores.set j (e.addr, e.value)).length = x.stores.length := by simp
   rw [← hlen]
   exact finR _ { x with touched := tch x.touched e.addr, stores := x.stores.set j (e.addr, e.value) } h [_] (by rw [hh, hp]) rfl rfl
  ·rw [findI_nn] at hge
   have hns : findN x.stores e.addr = none := by simpa using hge
   refine fun g1 => ⟨⟨by simp only [maxLen]; omega, by omega⟩, fun A c => ?_⟩
   intro a W rep
   have hp : putS x.stores e.addr e.value = x.stores ++ [(e.addr, e.value)] := by unfold putS; rw [hns]
   have hc2 : cellsPr (x.stores ++ [(e.addr, e.value)]) = cellsPr x.stores ++ [.int .i64 e.addr, .int .u64 e.value] := by rw [cellsPr_app]; rfl
   refine finS [] { x with touched := tch x.touched e.addr, stores := x.stores ++ [(e.addr, e.value)] } { h with sA := A, sc := c } [] (by rw [hh, hp]) rfl rfl a W ?_
   refine rep.res.le (by (simp only [setn, List.nil_append, List.cons_append, leF, leH_nil, leH_cons, leF_nil, lk, scp, scpL, scpO, resF, resH, resO, resV, resVL, nth, Nat.reduceBEq, Nat.reduceLT, decide_true, decide_false, List.length, List.length_cons, List.length_nil, Nat.reduceAdd, Bool.and_self, Bool.and_true, and_true, true_and, numF] <;> try simp)) ?_
   simp only [quadS, svA, hc2, List.length_append, List.length_cons, List.length_nil]
   (simp only [setn, List.nil_append, List.cons_append, leF, leH_nil, leH_cons, leF_nil, lk, scp, scpL, scpO, resF, resH, resO, resV, resVL, nth, Nat.reduceBEq, Nat.reduceLT, decide_true, decide_false, List.length, List.length_cons, List.length_nil, Nat.reduceAdd, Bool.and_self, Bool.and_true, and_true, true_and, numF] <;> try simp)
 ·have h4 := eq_of_beq h4
  refine call_val (R := fun v => v = .bool (hardB x)) (vs := [ptrH h]) rfl (fun W hW => hard56 x h (some ⟨h.g, 0, none⟩) W (hW.cellsAt (i := 0) (xs := cellsA x h) rfl rfl)) fun v hv => ⟨bsv (hardB x), by rw [hv]; cases hardB x <;> simp [Is, bsv], ?_⟩
  cases hh : hardB x with
  | true =>
   simp only [bsv]
   (refine Y_go 600 ?_; dsimp only [zq8t, Y_k, zq53, zq8o, zq6n, Nat.reduceBEq, zq6k, zq0m, YK, zq9i, normF, zq6l, zq6m, zq86, zq8a, zq89, zq87, zq8c, zq88, zq9s, zq6g, YC, zq9p, zqa1, zqa3])
   refine finS _ x h [_] ?_ rfl rfl
   unfold hearA; rw [if_neg (by omega), if_neg (by omega), if_pos h4, if_pos hh]
  | false =>
   simp only [bsv]
   (refine Y_go 600 ?_; dsimp only [zq8t, Y_k, zq53, zq8o, zq6n, Nat.reduceBEq, zq6k, zq0n, YK, zq9i, normF, zq6l, zq6m, zq86, zq89, zq8a, zq87, zq8c, zq88, zq9s, zq6f, YC, zq9y, t63n8, T63n8, zq9q, zq4u, zq5i, zq29, zq5a, zq14, Nat.add_zero, Nat.reduceAdd, zq5d, zq7u, zq73, zq0a, zq1x, nth, zq1t, dropL, takeL, zq1r, splice, setn, zq8s, zqa1, zqa3])
   refine finS _ { x with point := n } h [_] ?_ rfl rfl
   unfold hearA; rw [if_neg (by omega), if_neg (by omega), if_pos h4, if_neg (by rw [hh]; simp)]
 ·have h5 := eq_of_beq h5
  refine call_val (R := fun v => v = .bool (hardB x)) (vs := [ptrH h]) rfl (fun W hW => hard56 { x with to := n, com := true } h (some ⟨h.g, 0, none⟩) W (hW.cellsAt (i := 0) (xs := cellsA { x with to := n, com := true } h) rfl rfl)) fun v hv => ⟨bsv (hardB x), by rw [hv]; cases hardB x <;> simp [Is, bsv], ?_⟩
  cases hh : hardB x with
  | true =>
   simp only [bsv]
   (refine Y_go 600 ?_; dsimp only [zq8t, zq9i, normF, zq6n, Nat.reduceBEq, zq6l, zq6k, zq6m, zq86, zq89, zq8a, zq87, zq8c, zq88, zq9s, zq8o, zq6f, YC, zq9y, t63n10, T63n10, zq9q, Y_k, zq4u, YK, zq5i, zq29, zq5a, zq14, Nat.add_zero, Nat.reduceAdd, zq5d, zq7u, zq73, zq0a, zq1x, nth, zq1t, dropL, takeL, zq1r, splice, setn, zq8s, zqa1, zqa3])
   refine fun a W rep => finS _ { x with to := n, com := true, point := n } h [_] ?_ rfl rfl a W (rep.cellsTo 0 (l' := svA { x with to := n, com := true, point := n }) rfl fun vs h => h)
   unfold hearA; rw [if_neg (by omega), if_neg (by omega), if_neg (by omega), if_pos h5, if_pos hh]
  | false =>
   simp only [bsv]
   (refine Y_go 600 ?_; dsimp only [zq8t, zq9i, normF, zq6n, Nat.reduceBEq, zq6l, zq6k, zq6m, zq86, zq8a, zq89, zq87, zq8c, zq88, zq9s, zq8o, zq6g, YC, zq9p, zqa1, zqa3])
   refine fun a W rep => finS _ { x with to := n, com := true } h [_] ?_ rfl rfl a W (rep.cellsTo 0 (l' := svA { x with to := n, com := true }) rfl fun vs h => h)
   unfold hearA; rw [if_neg (by omega), if_neg (by omega), if_neg (by omega), if_pos h5, if_neg (by rw [hh]; simp)]
 ·have h6 := eq_of_beq h6
  (refine still_y (by dsimp only [zq6n, Nat.reduceBEq, zq6l, zq6k, zq5c, zq8o, zq1o, nth, zq1k, List.length_cons, List.length_nil, Nat.reduceAdd, dropL, takeL, zq19, zq18]; exact ⟨rfl, det_of_den rfl⟩) ?_; refine Y_go 600 ?_; dsimp only [Y_k, zq5i, zq8o, zq6n, Nat.reduceBEq, zq6l, zq6k, zq29, YK, zq8t, zq5a, zq14, Nat.add_zero, Nat.reduceAdd, zq5d, zq7u, zq73, zq0a, zq1x, nth, zq1t, dropL, takeL, zq1r, splice, setn, zq8s, zq9i, normF, zq6m, zq89, zq86, zq8a, zq87, zq8c, zq88, zqa1, zqa3])
  refine finS _ { x with to := n, code := e.code } h [_] ?_ rfl rfl
  unfold hearA; rw [if_neg (by omega), if_neg (by omega), if_neg (by omega), if_neg (by omega), if_pos h6]
 ·refine finS _ x h [_] ?_ rfl rfl
  have h2 : e.kind ≠ 2 := by simpa using h2
  have h3 : e.kind ≠ 3 := by simpa using h3
  have h4 : e.kind ≠ 4 := by simpa using h4
  have h5 : e.kind ≠ 5 := by simpa using h5
  have h6 : e.kind ≠ 6 := by simpa using h6
  unfold hearA; rw [if_neg h2, if_neg h3, if_neg h4, if_neg h5, if_neg h6]
end Go.Proofs.Ytbkpiljencaoeaa
