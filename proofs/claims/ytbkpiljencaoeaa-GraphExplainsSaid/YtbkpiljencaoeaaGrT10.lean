/- graph.Explains (1): is there a plain event; an order, sorted. -/
import Derived.Test.YtbkpiljencaoeaaGrT7
import Derived.Test.YtbkpiljencaoeaaGrM0
import Derived.Test.YtbkpiljencaoeaaGrSrt
import Derived.Test.YtbkpiljencaoeaaSxGhost
import Derived.Test.YtbkpiljencaoeaaGrCodeT
set_option linter.unusedSimpArgs false
set_option linter.unusedVariables false
set_option linter.unnecessarySimpa false
namespace Go.Proofs.Ytbkpiljencaoeaa
open Go Go.Sx Go.Hs Go.Gr
set_option maxRecDepth 100000
theorem ok36 : fnOk Try.prog 36 = true := by kernel_rfl
theorem is36 (e : Ev) (w : World) : CallsV Try.prog 36 [e.val] w fun v w' => v = .bool (plainB e) ∧ Fresh w w' := by
 refine calls_go (keep := K36) (nt := 11) (svs := [.agg e.sv]) Try.func36 x36 n36 (by simp) (by simp [IsL, Is, Ev.sv, Ev.cells]) fun R hR => ?_
 unfold Ev.sv
 (refine Y_go 600 ?_; dsimp only [X36, numF, Nat.reduceAdd, zq9r, zq9q, Y_k, zq5f, zq8o, zq6n, Nat.reduceBEq, zq6k, zq7t, List.length_cons, List.length_nil, zq8l, zq73, zq8m, zq8k, zq0a, zq1z, List.nil_append, YK, zq8t, zq4u, zq8p, zq6p, zq9i, normF, zq6l, zq8a, zq8c, zq88, zq9y, t36n0, T36n0, zq5a, zq14, Nat.add_zero, zq5c, zq1o, nth, zq1k, dropL, takeL, zq19, zq18, zq50, zq6q, zq04, zq92, zq9b, zq0i, zq9c, Y_gk, zq6e, YS, zq6a, zq4v, zq6o, zq0b, zq89, zq9x, YR, zq6c, zq0c, zq87])
 refine fun g => ⟨fun h => ?_, fun h => ?_⟩
 ·exact ret_rule (vs := [.bool true]) r36 rfl rfl fun W hW => hR _ _ ⟨by unfold plainB; rw [h]; rfl, hW.fresh'⟩
 ·exact ret_rule (vs := [.bool (e.kind == 8)]) r36 rfl rfl fun W hW => hR _ _ ⟨by unfold plainB; rw [h]; rfl, hW.fresh'⟩
theorem index58 (A : Option Addr) (c : Nat) (h : List Ev) (w : World) (hA : RowAt w A (cellsE h)) (hl : h.length ≤ 1000000) :
  CallsV Try.prog 58 [.slice A h.length c, .func (.func 36) #[] #[]] w fun v w' => (∃ n : Int, v = .int .i64 n ∧ decide (n ≥ 0) = h.any plainB) ∧ Fresh w w' := by
 refine calls_go (keep := K58) (nt := 19) (svs := [.val (.slice A h.length c), .val (.func (.func 36) #[] #[])]) Try.func58 x58 n58 (by simp) (by simp [IsL, Is]) fun R hR => ?_
 (refine Y_go 600 ?_; dsimp only [X58, numF, Nat.reduceAdd, zq9r, zq9q, Y_k, zq4u, zq8p, zq6q, YK, zq8t, zq9i, normF, zq6n, Nat.reduceBEq, zq6l, zq6k, zq6m, zq86, zq87, zq9y, t58n6, T58n6, zq8o, zq55, zq0r, zq9t, zq9v])
 refine loop_go (α := Nat) (fun i => i ≤ h.length ∧ ∀ e ∈ h.take i, plainB e = false) (fun _ => ⟨w, w.heap.size, [], 19, []⟩)
  (fun i => { F := [(0, .val (.slice A h.length c)), (1, .val (.func (.func 36) #[] #[])), (7, .val (.int .i64 h.length)), (8, .val (.int .i64 i))], H := [] }) (fun i => h.length - i) (fun _ => rfl) ?start ?round
 case start =>
  intro a' W rep
  refine ⟨0, ⟨Nat.zero_le _, by simp⟩, rep.le ?_ ?_⟩ <;> (simp only [setn, List.nil_append, List.cons_append, leF, leH_nil, leH_cons, leF_nil, lk, scp, scpL, scpO, resF, resH, resO, resV, resVL, nth, Nat.reduceBEq, Nat.reduceLT, decide_true, decide_false, List.length, List.length_cons, List.length_nil, Nat.reduceAdd, Bool.and_self, Bool.and_true, and_true, true_and, numF] <;> try simp)
 case round =>
  rintro i ⟨hi, hn⟩ I again
  (refine Y_go 600 ?_; dsimp only [zq9y, t58n4, T58n4, zq9r, zq9q, Y_k, zq50, zq8o, zq6n, Nat.reduceBEq, zq6l, zq6k, zq04, zq92, zq9b, zq0i, zq9e, YK, zq8t, zq9i, normF, zq6m, zq86, zq87, t58n3, T58n3, zq9s, zq6h, zq8x, YC, zq9p, t58n2, T58n2, zq9t, zq4u, zq89, t58n1, T58n1, zq58, zq06, zq0w, zq5c, zq1p, zq1c, List.nil_append, List.cons_append, zq1b, zq17, zq9k, zq9u, popTo, zq6i, YP, t58n5, T58n5, zq8p, zq6q, zq8a, zq9x])
  refine ⟨fun h1 => ?_, fun h1 => ?_⟩
  ·have hlt : i < h.length := by have := of_decide_eq_true h1; omega
   have cl : ∀ k v, (evA h i).cells[k]? = some v → CellAt ⟨w, w.heap.size, [], 19, []⟩ A ((i : Int).toNat * 9 + k) v := fun k v hk => evCell (rowE0 hA 19 []) hlt k v hk
   have hsome : A.isSome = true := hA.isSome (j := i * 9) (by rw [cellsE_len]; omega)
   have htk : h.take (i + 1) = h.take i ++ [evA h i] := by rw [List.take_add_one, List.getElem?_eq_getElem hlt, evA_lt hlt]; rfl
   have hm : evA h i ∈ h := by rw [evA_lt hlt]; exact List.getElem_mem hlt
   generalize evA h i = e at cl htk hm
   refine ⟨⟨by omega, by omega, hsome⟩, _, cl 0 _ rfl, _, cl 1 _ rfl, _, cl 2 _ rfl, _, cl 3 _ rfl, _, cl 4 _ rfl, _, cl 5 _ rfl, _, cl 6 _ rfl, _, cl 7 _ rfl, _, cl 8 _ rfl, ?_⟩
   refine callv_val (R := fun v => v = .bool (plainB e)) (f := 36) (fst := []) (caps := []) (vs := [e.val]) rfl ok36 rfl (fun W hW => is36 e W) fun v hv => ⟨.val (.bool (plainB e)), by rw [hv]; simp [Is], ?_⟩
   dsimp only [zq8t]
   (refine Y_go 600 ?_; dsimp only [zq9i, normF, zq6n, Nat.reduceBEq, zq6l, zq6k, zq6m, zq87, zq89, zq86, zq9s, zq8o, zq6h, zq8x, YC, zq9y, t58n0, T58n0, zq9r, zq9q, Y_k, zq4u, YK, zq8t, zq9x, zq9p, zqa1, zq4w, zq8p, zq6q, zq04, zq92, zq9b, zq0e, zq8a, zqa2])
   refine ⟨fun hb => ?_, fun hb => ⟨((i + 1 : Nat) : Int), ArOk.to (by omega) (by omega) (by omega), lend_rule fun a' W rep => again (i + 1) ⟨hlt, fun p hp => ?_⟩ (by omega) a' W (rep.le (by (simp only [setn, List.nil_append, List.cons_append, leF, leH_nil, leH_cons, leF_nil, lk, scp, scpL, scpO, resF, resH, resO, resV, resVL, nth, Nat.reduceBEq, Nat.reduceLT, decide_true, decide_false, List.length, List.length_cons, List.length_nil, Nat.reduceAdd, Bool.and_self, Bool.and_true, and_true, true_and, numF] <;> try simp)) (by (simp only [setn, List.nil_append, List.cons_append, leF, leH_nil, leH_cons, leF_nil, lk, scp, scpL, scpO, resF, resH, resO, resV, resVL, nth, Nat.reduceBEq, Nat.reduceLT, decide_true, decide_false, List.length, List.length_cons, List.length_nil, Nat.reduceAdd, Bool.and_self, Bool.and_true, and_true, true_and, numF] <;> try simp)))⟩⟩
   ·refine ret_rule (vs := [.int .i64 i]) r58 rfl rfl fun W hW => hR _ _ ⟨⟨i, rfl, ?_⟩, hW.fresh'⟩
    rw [List.any_eq_true.2 ⟨e, hm, hb⟩, decide_eq_true_eq]; omega
   ·rw [htk] at hp
    rcases List.mem_append.1 hp with h | h
    ·exact hn p h
    ·simp only [List.mem_singleton] at h; subst h; exact hb
  ·have hil : i = h.length := by have := of_decide_eq_false h1; omega
   subst hil
   rw [List.take_of_length_le (Nat.le_refl _)] at hn
   refine ret_rule (vs := [.int .i64 (-1)]) r58 rfl rfl fun W hW => hR _ _ ⟨⟨-1, rfl, ?_⟩, hW.fresh'⟩
   have : h.any plainB = false := by rw [List.any_eq_false]; intro e he; rw [hn e he]; simp
   rw [this]; rfl
theorem contains35 (A : Option Addr) (c : Nat) (h : List Ev) (w : World) (hA : RowAt w A (cellsE h)) (hl : h.length ≤ 1000000) :
  CallsV Try.prog 35 [.slice A h.length c, .func (.func 36) #[] #[]] w fun v w' => v = .bool (h.any plainB) ∧ Fresh w w' := by
 refine calls_go (keep := K35) (nt := 9) (svs := [.val (.slice A h.length c), .val (.func (.func 36) #[] #[])]) Try.func35 x35 n35 (by simp) (by simp [IsL, Is]) fun R hR => ?_
 (refine Y_go 600 ?_; dsimp only [X35, numF, Nat.reduceAdd, zq9r, zq9q, Y_k, zq4u, zq8p, zq6p, YK, zq8t, zq9i, normF, zq6n, Nat.reduceBEq, zq6l, zq6k, zq8a, zq87, zq9y, t35n0, T35n0, zq8o, zq9j])
 refine call_val (R := fun v => ∃ n : Int, v = .int .i64 n ∧ decide (n ≥ 0) = h.any plainB) (vs := [.slice A h.length c, .func (.func 36) #[] #[]]) rfl (fun W hW => index58 A c h W (hA.keep hW.fresh') hl) fun v ⟨n, hv, hn⟩ => ⟨.val (.int .i64 n), by rw [hv]; simp [Is], ?_⟩
 dsimp only [zq8t]
 (refine Y_go 600 ?_; dsimp only [Y_k, zq50, zq8o, zq6n, Nat.reduceBEq, zq6k, zq8p, zq6q, zq04, zq92, zq9b, zq0i, zq9h, YK, zq8t, zq4u, zq9i, normF, zq6l, zq87, zq9x])
 exact ret_rule (vs := [.bool (decide (n ≥ 0))]) r35 rfl rfl fun W hW => hR _ _ ⟨by rw [hn]; rfl, hW.fresh'⟩
theorem values38 (A : Option Addr) (n c : Nat) (w : World) :
  CallsV Try.prog 38 [.slice A n c] w fun v w' => ∃ C : Option Addr, v = .func (.func 60) #[] #[.pointer C] ∧ RowAt w' C [.slice A n c] ∧ Fresh w w' := by
 refine calls_go (keep := K38) (nt := 4) (svs := [.val (.slice A n c)]) Try.func38 x38 n38 (by simp) (by simp [IsL, Is]) fun R hR => ?_
 (refine Y_go 600 ?_; dsimp only [X38, numF, Nat.reduceAdd, zq9r, zq9q, Y_k, zq5f, zq8o, zq6n, Nat.reduceBEq, zq6k, zq7u, zq77, zq0a, zq1z, List.length_nil, List.nil_append, YK, zq8t, zq4u, zq8p, zq6y, zq9i, normF, zq6l, zq87, zq8c, zq9y, t38n0, T38n0, zq5k, evL, zq8j, zq9x])
 intro gb
 exact ret_rule (vs := [.func (.func 60) #[] #[.pointer (some ⟨gb, 0, none⟩)]]) r38 rfl rfl fun W hW => hR _ _ ⟨_, rfl, hW.cellsAt (i := 0) rfl rfl, hW.fresh'⟩
theorem ok60 : fnOk Try.prog 60 = true := by kernel_rfl
theorem append73 (C A : Option Addr) (o : List Int) (c : Nat) (w : World) (hC : RowAt w C [.slice A o.length c]) (hA : RowAt w A (isV o)) (hl : o.length ≤ 1000000) :
  CallsV Try.prog 73 [.slice none 0 0, .func (.func 60) #[] #[.pointer C]] w fun v w' => World.ownsB w' w.heap.size 3 1 v o.length (isV o) ∧ Fresh w w' := by
 refine calls_goM (keep := K73) (nt := 13) (svs := [.val (.slice none 0 0), .val (.func (.func 60) #[] #[.pointer C])]) Try.func73 x73 n73 (by simp) (by simp [IsL, Is]) fun R hR => ?_
 (refine Y_goM 600 ?_; dsimp only [X73, numF, Nat.reduceAdd, zq9r, zq9q, Y_k, zq5f, zq8o, zq6n, Nat.reduceBEq, zq6k, zq7u, zq77, zq0a, zq1z, List.length_nil, List.nil_append, YK, zq8t, zq4u, zq8p, zq6u, zq9i, normF, zq6l, zq6m, zq86, zq87, zq8c, zq9y, t73n3, T73n3, t73n1, T73n1, zq9t, zq9w])
 intro g0
 (refine Y_goM 600 ?_; dsimp only [zq9w])
 refine rng_rule rfl rfl (gf := 60) (caps := [.pointer C]) rfl ok60 ?_
 intro D lo rec hrec R' hend hjump W3 hW3
 refine calls_in (keep := K60) (nt := 16) (E := ⟨w, w.heap.size, [], 13, []⟩) (svs := [.val (.func (.yield lo) #[] #[]), .adr C 0]) Try.func60 x60 n60 (by simp) hW3 (by obtain ⟨c, rfl, _⟩ := hC 0 _ rfl; simp [IsL, Is, Addr.add]) ?_
 (refine Y_go 600 ?_; dsimp only [X60, numF, Nat.reduceAdd, List.cons_append, List.nil_append, zq9r, zq9q, Y_k, zq5c, zq8o, zq6n, Nat.reduceBEq, zq6l, zq6k, zq1p, zq1g, zq1b, zq18, YK, zq8t, zq55, zq0r, zq4u, zq8p, zq6q, zq9i, normF, zq6m, zq86, zq87, zq8d, zq9t, zq9v])
 refine ⟨_, _, _, hC.cell (j := 0) rfl, ?_⟩
 have hA16 : RowE ⟨w, w.heap.size, [], 16, []⟩ A (isV o) := hA.toE (st := []) (by simp) 16 []
 refine loop_go (α := Nat × Option Addr × Nat) (fun q => q.1 ≤ o.length) (fun _ => ⟨w, w.heap.size, [], 16, []⟩)
  (fun q => { F := [(0, .val (.func (.yield lo) #[] #[])), (5, .val (.slice A o.length c)), (6, .val (.int .i64 o.length)), (7, .val (.int .i64 q.1))], H := [.cells g0 24 [.own 3 0], .obj D (.deferred (some [])), .obj lo (.loop rec), .own 3 0 1 q.2.1 (o.take q.1).length q.2.2 (isV (o.take q.1))] }) (fun q => o.length - q.1) (fun _ => rfl) ?start ?round
 case start =>
  intro a W rep
  exact ⟨(0, none, 0), Nat.zero_le _, (rep.adoptC 0 3 1 rfl).le (by (simp only [setn, List.nil_append, List.cons_append, leF, leH_nil, leH_cons, leF_nil, lk, scp, scpL, scpO, resF, resH, resO, resV, resVL, nth, Nat.reduceBEq, Nat.reduceLT, decide_true, decide_false, List.length, List.length_cons, List.length_nil, Nat.reduceAdd, Bool.and_self, Bool.and_true, and_true, true_and, numF] <;> try simp)) (by (simp only [setn, List.nil_append, List.cons_append, leF, leH_nil, leH_cons, leF_nil, lk, scp, scpL, scpO, resF, resH, resO, resV, resVL, nth, Nat.reduceBEq, Nat.reduceLT, decide_true, decide_false, List.length, List.length_cons, List.length_nil, Nat.reduceAdd, Bool.and_self, Bool.and_true, and_true, true_and, numF] <;> try simp); rfl)⟩
 case round =>
  rintro ⟨i, B, bc⟩ hi I again
  simp only at hi ⊢
  (refine Y_go 600 ?_; dsimp only [zq9y, t60n3, T60n3, zq9r, zq9q, Y_k, zq50, zq8o, zq6n, Nat.reduceBEq, zq6l, zq6k, zq04, zq92, zq9b, zq0i, zq9e, YK, zq8t, zq9i, normF, zq6m, zq86, zq87, t60n2, T60n2, zq9s, zq6h, zq8x, YC, zq9p, t60n1, T60n1, zq9t, zq58, zq06, zq0w, zq5c, zq1p, zq1c, List.nil_append, zq1b, zq18, zq4u, zq89, t60n0, T60n0, zq9k, zq9u, popTo, zq6i, YP, zqa3])
  refine ⟨fun hlt => ?_, fun hge => ?_⟩
  ·have hlt : i < o.length := by have := of_decide_eq_true hlt; omega
   have sA : A.isSome = true := hA.isSome (j := i) (by rw [isV_len]; exact hlt)
   have htk : o.take (i + 1) = o.take i ++ [o[i]] := by rw [List.take_add_one, List.getElem?_eq_getElem hlt]; rfl
   have htl : (o.take i).length = i := by rw [List.length_take]; omega
   have cA : CellAt ⟨w, w.heap.size, [], 16, []⟩ A ((i : Int).toNat * 1) (.int .i64 o[i]) := by rw [Int.toNat_natCast, Nat.mul_one]; exact hA16.cell (isV_get _ _ _ (List.getElem?_eq_getElem hlt))
   have hadd : ArOk .add .i64 (i : Int) 1 ((i + 1 : Nat) : Int) := ArOk.to (by omega) (by omega) (by omega)
   generalize o[i] = x at cA htk
   refine ⟨⟨by omega, by omega, sA⟩, x, cA, ?_⟩
   refine yield_rule (C' := cxOf Try.prog Try.f60 K60 T60 R') (E := ⟨w, w.heap.size, [], 13, []⟩) (i := 2) (rec := rec) (lno := lo) (keep := K73) ?_ ?_ ?_ hrec ?_ ?_ ?_ ?_ ?_ ?_
   ·rfl
   ·rfl
   ·rfl
   ·simp
   ·rfl
   ·rfl
   ·rfl
   ·exact extB_spec (by simp [extB, SO.blk, bump])
   intro J Q' hQ' hbeg hnorm hjmp
   have hF : NoPanic (fun _ _ _ => False) := fun _ _ _ h => h
   (refine Y_round hF 600 ?_; dsimp only [evL, zq8o, zq6n, Nat.reduceBEq, zq6k, setPs, zq9q, Y_k, zq4u, YK, zq8t, zq9i, normF, zq6l, zq87, zq8c, zqa2])
   refine lend_rule fun a W rep => hbeg _ _ rfl ?_ a W rep
   (refine Y_round hQ' 600 ?_; dsimp only [setn, zq9y, t73n0, T73n0, zq9t, zq9q, Y_k, zq5c, zq8o, zq6n, Nat.reduceBEq, zq6l, zq6k, zq1o, nth, zq1k, List.length_cons, List.length_nil, Nat.reduceAdd, dropL, takeL, zq19, zq18, YK, zq8t, zq4u, zq5h, List.map, zq6q, repL, List.cons_append, List.nil_append, zq23, Nat.reduceMul, zq7u, zq73, zq0a, zq20, splice, zq24, zq26, zq5l, zq2w, zq09, zq08, zq2s, zq9b, zq2r, zq2n, zq2j, zq2k, zq8l, zq8m, zq8k, denL, den, zq2l, zq2h, zq5d, zq81, zq7n, zq1x, zq1t, zq1r, zq8s, zq9i, normF, zq87, zq8c, zqa1, zqa3])
   refine fun g1 => ⟨⟨by simp only [maxLen]; omega, by omega⟩, fun B2 bc2 => ?_⟩
   refine stop_rule fun a W rep => hnorm _ rfl (extB_spec (by simp [extB, SO.blk, bump])) ?_ _ a W rep
   (refine Y_go 600 ?_; dsimp only [zq8t, setn, Y_k, zq53, zq8o, zq6n, Nat.reduceBEq, zq6k, zq0m, YK, zq9i, normF, zq6l, zq6m, zq8a, zq89, zq87, zq86, zq9s, zq6g, YC, zq9p, zqa1, zq9q, zq4w, zq8p, zq6q, zq04, zq92, zq9b, zq0e, zq4u, zqa2])
   refine ⟨_, hadd, lend_rule fun a W rep => again (i + 1, B2, bc2) hlt (by show o.length - (i + 1) < o.length - i; omega) a W ?_⟩
   have e1 : isV (o.take i ++ [x]) = isV (o.take i) ++ [.int .i64 x] := by simp [isV]
   have e2 : (o.take i ++ [x]).length = (o.take i).length + 1 := by simp
   simp only [htk, e1, e2]
   exact rep.res.le (by (simp only [setn, List.nil_append, List.cons_append, leF, leH_nil, leH_cons, leF_nil, lk, scp, scpL, scpO, resF, resH, resO, resV, resVL, nth, Nat.reduceBEq, Nat.reduceLT, decide_true, decide_false, List.length, List.length_cons, List.length_nil, Nat.reduceAdd, Bool.and_self, Bool.and_true, and_true, true_and, numF] <;> try simp)) (by (simp only [setn, List.nil_append, List.cons_append, leF, leH_nil, leH_cons, leF_nil, lk, scp, scpL, scpO, resF, resH, resO, resV, resVL, nth, Nat.reduceBEq, Nat.reduceLT, decide_true, decide_false, List.length, List.length_cons, List.length_nil, Nat.reduceAdd, Bool.and_self, Bool.and_true, and_true, true_and, numF] <;> try simp))
  ·have hie : i = o.length := by have := of_decide_eq_false hge; omega
   subst hie
   rw [List.take_of_length_le (Nat.le_refl _)]
   refine ret_rule (keep := K60) (tab := T60) (vs := []) r60 rfl rfl fun W hW => ?_
   refine hend _ _ W ?_ (extB_spec ?_) (HeapOk.env (E := ⟨w, w.heap.size, [], 16, []⟩) (E' := ⟨w, w.heap.size, [], 13, []⟩) rfl rfl rfl hW) ?_
   ·rfl
   ·simp [extB, SO.blk, bump]
   ·(refine Y_goM 600 ?_; dsimp only [List.length_cons, List.length_nil, Nat.reduceAdd, setn, zqa1, zq9y, t73n2, T73n2, zq9r, zq9q, Y_k, zq5c, zq8o, zq6n, Nat.reduceBEq, zq6l, zq6k, zq1o, nth, zq1k, dropL, takeL, zq19, zq18, YK, zq8t, zq4u, zq9i, normF, zq6m, zq86, zq87, zq8f, zq8c, zq9x])
    refine ret_mark (vs := [.slice B o.length bc]) 1 r73 rfl rfl rfl fun W hW => hR _ _ ?_
    have hW2 := HeapOk.env (E := ⟨w, w.heap.size, [], 13, [D]⟩) (E' := ⟨w, w.heap.size, [], 13, []⟩) rfl rfl rfl hW
    exact ⟨hW2.owns (i := 3) rfl, hW2.fresh'⟩
theorem collect59 (C A : Option Addr) (o : List Int) (c : Nat) (w : World) (hC : RowAt w C [.slice A o.length c]) (hA : RowAt w A (isV o)) (hl : o.length ≤ 1000000) :
  CallsV Try.prog 59 [.func (.func 60) #[] #[.pointer C]] w fun v w' => World.ownsB w' w.heap.size 3 1 v o.length (isV o) ∧ Fresh w w' := by
 refine calls_go (keep := K59) (nt := 5) (svs := [.val (.func (.func 60) #[] #[.pointer C])]) Try.func59 x59 n59 (by simp) (by simp [IsL, Is]) fun R hR => ?_
 (refine Y_go 600 ?_; dsimp only [X59, numF, Nat.reduceAdd, zq9r, zq9q, Y_k, zq4u, zq8p, zq6u, YK, zq8t, zq9i, normF, zq6n, Nat.reduceBEq, zq6l, zq6k, zq87, zq9y, t59n0, T59n0, zq8o, zq9j])
 refine call_own (vs := [.slice none 0 0, .func (.func 60) #[] #[.pointer C]]) rfl (t := 3) (sz := 1) (n := o.length) (xs := isV o) (fun W hW => append73 C A o c W (hC.keep hW.fresh') (hA.keep hW.fresh') hl) fun B bc => ?_
 dsimp only [List.length_nil, zq8t, List.nil_append]
 (refine Y_go 600 ?_; dsimp only [Y_k, zq4u, zq8o, zq6n, Nat.reduceBEq, zq6k, YK, zq8t, zq9i, normF, zq6l, zq8f, zq87, zq9x])
 exact ret_rule (vs := [.slice B o.length bc]) r59 rfl rfl fun W hW => hR _ _ ⟨hW.owns (i := 0) rfl, hW.fresh'⟩
theorem sorted37 (C A : Option Addr) (o : List Int) (c : Nat) (w : World) (hC : RowAt w C [.slice A o.length c]) (hA : RowAt w A (isV o)) (hl : o.length ≤ 1000) :
  CallsV Try.prog 37 [.func (.func 60) #[] #[.pointer C]] w fun v w' => World.ownsB w' w.heap.size 3 1 v o.length (isV (srtI o)) ∧ Fresh w w' := by
 refine calls_go (keep := K37) (nt := 9) (svs := [.val (.func (.func 60) #[] #[.pointer C])]) Try.func37 x37 n37 (by simp) (by simp [IsL, Is]) fun R hR => ?_
 (refine Y_go 600 ?_; dsimp only [X37, numF, Nat.reduceAdd, zq9r, zq9q, Y_k, zq4u, zq8p, zq6u, YK, zq8t, zq9i, normF, zq6n, Nat.reduceBEq, zq6l, zq6k, zq6m, zq86, zq87, zq9y, t37n2, T37n2, zq8o, zq9j])
 refine call_own (vs := [.func (.func 60) #[] #[.pointer C]]) rfl (t := 3) (sz := 1) (n := o.length) (xs := isV o) (fun W hW => collect59 C A o c W (hC.keep hW.fresh') (hA.keep hW.fresh') (by omega)) fun B bc => ?_
 dsimp only [List.length_nil, zq8t, List.nil_append]
 (refine Y_go 600 ?_; dsimp only [Y_k, zq4u, zq8o, zq6n, Nat.reduceBEq, zq6k, YK, zq8t, zq9i, normF, zq6l, zq8f, zq87, zq9y, t37n1, T37n1, zq9r, zq9q, zq9j])
 refine call_rule (vs := [.slice B o.length bc]) rfl (R := fun W v W' => v = .tuple #[] ∧ HeapOk ⟨w, w.heap.size, [], 9, []⟩ [.own 3 0 1 B o.length bc (isV (srtI o))] W') (fun W hW => sort44 hW (i := 0) rfl (by omega)) fun W v W' hW ⟨hv, hW'⟩ => ⟨.tup [], _, by rw [hv]; simp [Is, IsL], HExt.setOwn (i := 0) rfl (Nat.le_refl _) fun _ => ⟨rfl, rfl, rfl⟩, hW', ?_⟩
 dsimp only [zq8t, setn]
 (refine Y_go 600 ?_; dsimp only [zq9i, normF, zq6n, Nat.reduceBEq, zq6l, zq6k, zq8f, zq87, zq9y, t37n0, T37n0, zq9r, zq9q, Y_k, zq4u, zq8o, YK, zq8t, zq9x])
 exact ret_rule (vs := [.slice B o.length bc]) r37 rfl rfl fun W hW => hR _ _ ⟨hW.owns (i := 0) rfl, hW.fresh'⟩
end Go.Proofs.Ytbkpiljencaoeaa
