/- GraphNames: the law's function (printed by mkt15.py). -/
import Derived.Test.YtbkpiljencaoeaaGrT11
import Derived.Test.YtbkpiljencaoeaaGrAl
import Derived.Test.YtbkpiljencaoeaaGrNm
import Derived.Test.YtbkpiljencaoeaaGrCodeN
set_option linter.unusedSimpArgs false
set_option linter.unusedVariables false
set_option linter.unnecessarySimpa false
namespace Go.Proofs.Ytbkpiljencaoeaa
open Go Go.Sx Go.Hs Go.Gr
set_option maxRecDepth 100000
theorem G.lit {C : Cx} {E : Env} {k : List KI} {F : List (Nat × SV)} (F' : List (Nat × SV)) {g : Nat} {t : TypeId} {l : List SV} {xs : List Value} {d n : Nat} (hd : lk F d = .slc 0 0 n n) (hx : denL [.cells g t l] l = some xs)
  (h1 : leF 1 ((d, .val (.slice (some ⟨g, 0, none⟩) n n)) :: F) F') (hF : leF 0 F' F')
  (next : ∀ W, RowE ⟨W, W.heap.size, [], E.nt, E.marks⟩ (some ⟨g, 0, none⟩) xs → Over E ⟨W, W.heap.size, [], E.nt, E.marks⟩ → G C ⟨W, W.heap.size, [], E.nt, E.marks⟩ k { F := F', H := [] }) :
  G C E k { F := F, H := [.cells g t l] } := by
 refine G.le (E' := E) rfl (s' := { F := F', H := [] ++ [.cells g t l] }) (fun a W rep => Rep.few (rep_swap d rep hd (y := .val (.slice (some ⟨g, 0, none⟩) n n)) fun v h => ?_) 1 h1) ?_
 ·simp only [Is, blk, nth, SO.blk] at h ⊢
  obtain ⟨g', e, h⟩ := h
  injection e with e; subst e
  exact h
 ·refine G.cut (H1 := []) rfl hF fun W hW hov => next W ?_ hov
  have : RowAt W (some ⟨g, 0, none⟩) xs := hW.cellsAt (i := 0) rfl hx
  exact this.toE (st := []) (by simp) _ _
theorem rowNil (w : World) : RowAt w none [] := fun j u hj => by cases hj
theorem two22 (w : World) : CallsV Try.prog 22 [] w fun v w' => (∃ B, v = .slice B 6 6 ∧ RowAt w' B (cellsE twoL)) ∧ Fresh w w' := by
 refine calls_go (keep := K22) (nt := 8) (svs := []) Try.func22 x22 n22 (by simp) (by simp [IsL, Is]) fun R hR => ?_
 (refine Y_go 600 ?_; dsimp only [X22, numF, zq9r, zq9q, Y_k, zq4u, zq8p, zq6u, YK, zq8t, zq9i, normF, zq6n, Nat.reduceBEq, zq6k, zq87, zq9y, t22n0, T22n0, zq5g, List.map, zq6q, zq21, zq7u, zq73, zq0a, dropL, takeL, zq20, splice, setn, zq22, zq25, zq5h, repL, List.cons_append, List.nil_append, zq23, Nat.reduceMul, zq8o, zq6l, zq7t, List.length_cons, List.length_nil, Nat.reduceAdd, zq8l, zq8m, zq8k, zq24, zq26, zq8e, zq9x])
 intro g
 exact ret_rule (vs := [.slice (some ⟨g, 0, none⟩) 6 6]) r22 rfl rfl fun W hW => hR _ _ ⟨⟨_, rfl, hW.cellsAt (i := 0) rfl rfl⟩, hW.fresh'⟩
theorem nmO {w w' : World} {v : Value} (hr : OrdR w 4 [(0, 2), (2, 3), (3, 2), (3, 0)] v w') : v = .tuple #[.slice none 0 0, .int .i64 250] ∧ Fresh w w' := by
 rcases hr with ⟨⟨h, _⟩ | ⟨_, _, hv⟩ | ⟨_, h, _⟩, hf⟩
 ·exact absurd (by decide) h
 ·exact ⟨hv, hf⟩
 ·exact absurd nm_ord h
theorem nmO1 {w w' : World} {v : Value} (hr : OrdR w (-1) [] v w') : v = .tuple #[.slice none 0 0, .int .i64 2] ∧ Fresh w w' := by
 rcases hr with ⟨⟨_, hv⟩ | ⟨h, _⟩ | ⟨h, _⟩, hf⟩
 ·exact ⟨hv, hf⟩
 ·exact absurd h (by decide)
 ·exact absurd h (by decide)
theorem nmC0 {w w' : World} {v : Value} (hr : (¬ okG 4 [(3, 1), (1, 0)] ∧ v = .tuple #[.slice none 0 0, .int .i64 2] ∧ Fresh w w') ∨ (okG 4 [(3, 1), (1, 0)] ∧ ∃ B bc, v = .tuple #[.slice B (cycL [(3, 1), (1, 0)] (4 : Int).toNat).length bc, .int .i64 0] ∧ World.ownsB w' w.heap.size 3 1 (.slice B (cycL [(3, 1), (1, 0)] (4 : Int).toNat).length bc) (cycL [(3, 1), (1, 0)] (4 : Int).toNat).length (isV (cycL [(3, 1), (1, 0)] (4 : Int).toNat)) ∧ Fresh w w')) : (∃ C cc, v = .tuple #[.slice C 0 cc, .int .i64 0]) ∧ Fresh w w' := by
 have e : cycL [(3, 1), (1, 0)] (4 : Int).toNat = [] := nm_cyc0
 rw [e] at hr
 rcases hr with ⟨h, _⟩ | ⟨_, B, bc, hv, _, hf⟩
 ·exact absurd (by decide) h
 ·exact ⟨⟨B, bc, hv⟩, hf⟩
theorem nmC1 {w w' : World} {v : Value} (hr : (¬ okG 2 [(1, 1)] ∧ v = .tuple #[.slice none 0 0, .int .i64 2] ∧ Fresh w w') ∨ (okG 2 [(1, 1)] ∧ ∃ B bc, v = .tuple #[.slice B (cycL [(1, 1)] (2 : Int).toNat).length bc, .int .i64 0] ∧ World.ownsB w' w.heap.size 3 1 (.slice B (cycL [(1, 1)] (2 : Int).toNat).length bc) (cycL [(1, 1)] (2 : Int).toNat).length (isV (cycL [(1, 1)] (2 : Int).toNat)) ∧ Fresh w w')) : (∃ C cc, v = .tuple #[.slice C 1 cc, .int .i64 0] ∧ RowAt w' C (isV [1])) ∧ Fresh w w' := by
 have e : cycL [(1, 1)] (2 : Int).toNat = [1] := nm_cyc1
 rw [e] at hr
 rcases hr with ⟨h, _⟩ | ⟨_, B, bc, hv, ho, hf⟩
 ·exact absurd (by decide) h
 ·exact ⟨⟨B, bc, hv, RowAt.of_own ho rfl⟩, hf⟩
theorem nmC2 {w w' : World} {v : Value} {X : Prop} (hr : (¬ okG 501 [] ∧ v = .tuple #[.slice none 0 0, .int .i64 2] ∧ Fresh w w') ∨ (okG 501 [] ∧ X)) : v = .tuple #[.slice none 0 0, .int .i64 2] ∧ Fresh w w' := by
 rcases hr with ⟨_, hv, hf⟩ | ⟨h, _⟩
 ·exact ⟨hv, hf⟩
 ·exact absurd h (by decide)
theorem nmB1 {w w' : World} {v : Value} {X : Prop} (hr : ((¬ okG 1 [(0, 1)] ∧ v = .tuple #[.slice none 0 0, .int .i64 2]) ∨ (okG 1 [(0, 1)] ∧ X)) ∧ Fresh w w') : v = .tuple #[.slice none 0 0, .int .i64 2] ∧ Fresh w w' := by
 rcases hr with ⟨⟨_, hv⟩ | ⟨h, _⟩, hf⟩
 ·exact ⟨hv, hf⟩
 ·exact absurd h (by decide)
theorem nmB3 {w w' : World} {v : Value} (hr : ((¬ okG 3 [(0, 1), (1, 2)] ∧ v = .tuple #[.slice none 0 0, .int .i64 2]) ∨ (okG 3 [(0, 1), (1, 2)] ∧ ∃ B bc gs, v = .tuple #[.slice B (3 : Int).toNat bc, .int .i64 0] ∧ TabAt w' B gs (bhB [(0, 1), (1, 2)]) (3 : Int).toNat (3 : Int).toNat)) ∧ Fresh w w') : (∃ B bc gs, v = .tuple #[.slice B 3 bc, .int .i64 0] ∧ TabAt w' B gs (bhB [(0, 1), (1, 2)]) 3 3) ∧ Fresh w w' := by
 rcases hr with ⟨⟨h, _⟩ | ⟨_, B, bc, gs, hv, ht⟩, hf⟩
 ·exact absurd (by decide) h
 ·exact ⟨⟨B, bc, gs, hv, ht⟩, hf⟩
theorem nmOf {w w' : World} {v : Value} (hr : OfR twoL v w' ∧ Fresh w w') : (∃ D dc, v = .tuple #[.int .i64 2, .slice D 1 dc, .int .i64 0] ∧ RowAt w' D (cellsD [(0, 1)])) ∧ Fresh w w' := by
 obtain ⟨l, h1, h2, h3⟩ := two_com
 obtain ⟨⟨h, _⟩ | ⟨l', B, bc, h, hv, hB⟩, hf⟩ := hr
 ·rw [h1] at h; cases h
 ·rw [h1] at h; injection h with h; subst h
  rw [h3] at hv hB
  rw [h2] at hv
  exact ⟨⟨B, bc, hv, hB⟩, hf⟩
theorem nmOf5 {w w' : World} {v : Value} (hr : OfR [⟨5, 0, 0, 0, 0, 0, 0, 0, 0⟩] v w' ∧ Fresh w w') : v = .tuple #[.int .i64 0, .slice none 0 0, .int .i64 120] ∧ Fresh w w' := by
 obtain ⟨⟨_, hv⟩ | ⟨l', B, bc, h, hv, hB⟩, hf⟩ := hr
 ·exact ⟨hv, hf⟩
 ·rw [com5] at h; cases h
set_option maxHeartbeats 2000000 in
theorem law7 (w : World) : CallsV Try.prog 7 [] w fun v w' => v = .bool true ∧ Fresh w w' := by
 refine calls_go (keep := K7) (nt := 247) (svs := []) Try.func7 x7 n7 (by simp) (by simp [IsL, Is]) fun R hR => ?_
 have ov := Over.refl ⟨w, w.heap.size, [], 247, []⟩
 (refine Y_go 600 ?_; dsimp only [X7, numF, zq9r, zq9q, Y_k, zq4u, zq8p, zq6p, YK, zq8t, zq9i, normF, zq6n, Nat.reduceBEq, zq6k, zq6l, zq6m, zq86, zq8a, zq9y, t7n14, T7n14, zq5g, List.map, zq6q, zq21, zq7u, zq73, zq0a, dropL, takeL, zq20, splice, setn, zq22, zq25, zq5h, repL, List.cons_append, List.nil_append, zq23, Nat.reduceMul, zq8o, zq7t, List.length_cons, List.length_nil, Nat.reduceAdd, zq8l, zq8m, zq8k, zq24, zq26, zq9j])
 intro g1
 refine G.lit (d := 35) (n := 4) (xs := cellsD [(0, 2), (2, 3), (3, 2), (3, 0)]) [(35, .val (.slice (some ⟨g1, 0, none⟩) 4 4)), (0, .bf)] rfl rfl (by (simp only [setn, List.nil_append, List.cons_append, leF, leH_nil, leH_cons, leF_nil, lk, scp, scpL, scpO, resF, resH, resO, resV, resVL, nth, Nat.reduceBEq, Nat.reduceLT, decide_true, decide_false, List.length, List.length_cons, List.length_nil, Nat.reduceAdd, Bool.and_self, Bool.and_true, and_true, true_and, numF] <;> try simp)) (by (simp only [setn, List.nil_append, List.cons_append, leF, leH_nil, leH_cons, leF_nil, lk, scp, scpL, scpO, resF, resH, resO, resV, resVL, nth, Nat.reduceBEq, Nat.reduceLT, decide_true, decide_false, List.length, List.length_cons, List.length_nil, Nat.reduceAdd, Bool.and_self, Bool.and_true, and_true, true_and, numF] <;> try simp)) fun W1 hE ov2 => ?_
 replace ov := ov.trans ov2
 clear ov2
 refine call_base (vs := [.int .i64 4, .slice (some ⟨g1, 0, none⟩) 4 4]) rfl (R := fun W v w' => (v = .tuple #[.slice none 0 0, .int .i64 250]) ∧ Fresh W w') (fun W hW => (order10 _ _ 4 [(0, 2), (2, 3), (3, 2), (3, 0)] W (hE.at hW)).mono fun _ _ hr => nmO hr) (fun _ _ _ hr => hr.2) fun W v W2 hW ⟨hv, _⟩ ov2 => ?_
 replace ov := ov.trans ov2
 refine ⟨.tup [.val (.slice none 0 0), .val (.int .i64 250)], by rw [hv]; simp [Is, IsL], ?_⟩
 clear hE
 clear ov2 hW hv
 dsimp only [zq8t]
 (refine Y_go 600 ?_; dsimp only [Y_k, zq4u, zq8o, zq6n, Nat.reduceBEq, zq6k, YK, zq8t, zq5j, zq2f, nth, zq2e, zq6l, zq9i, normF, zq6m, zq86, zq87, zq8a, zq9y, t7n13, T7n13, zq9r, zq9q, zq5g, List.map, zq6q, zq21, zq8p, zq7u, zq73, zq0a, dropL, takeL, zq20, splice, setn, zq22, zq25, zq5h, repL, List.cons_append, List.nil_append, zq23, Nat.reduceMul, zq7t, List.length_cons, List.length_nil, Nat.reduceAdd, zq8l, zq8m, zq8k, zq24, zq26, zq9j])
 intro g3
 refine G.lit (d := 42) (n := 2) (xs := cellsD [(3, 1), (1, 0)]) [(42, .val (.slice (some ⟨g3, 0, none⟩) 2 2)), (0, .bf), (2, .val (.int .i64 250))] rfl rfl (by (simp only [setn, List.nil_append, List.cons_append, leF, leH_nil, leH_cons, leF_nil, lk, scp, scpL, scpO, resF, resH, resO, resV, resVL, nth, Nat.reduceBEq, Nat.reduceLT, decide_true, decide_false, List.length, List.length_cons, List.length_nil, Nat.reduceAdd, Bool.and_self, Bool.and_true, and_true, true_and, numF] <;> try simp)) (by (simp only [setn, List.nil_append, List.cons_append, leF, leH_nil, leH_cons, leF_nil, lk, scp, scpL, scpO, resF, resH, resO, resV, resVL, nth, Nat.reduceBEq, Nat.reduceLT, decide_true, decide_false, List.length, List.length_cons, List.length_nil, Nat.reduceAdd, Bool.and_self, Bool.and_true, and_true, true_and, numF] <;> try simp)) fun W3 hE ov2 => ?_
 replace ov := ov.trans ov2
 clear ov2
 refine call_base (vs := [.int .i64 4, .slice (some ⟨g3, 0, none⟩) 2 2]) rfl (R := fun W v w' => (∃ C cc, v = .tuple #[.slice C 0 cc, .int .i64 0]) ∧ Fresh W w') (fun W hW => (cycle11 _ _ 4 [(3, 1), (1, 0)] W (hE.at hW)).mono fun _ _ hr => nmC0 hr) (fun _ _ _ hr => hr.2) fun W v W4 hW ⟨⟨C0, cc0, hv⟩, _⟩ ov2 => ?_
 replace ov := ov.trans ov2
 refine ⟨.tup [.val (.slice C0 0 cc0), .val (.int .i64 0)], by rw [hv]; simp [Is, IsL], ?_⟩
 clear hE
 clear ov2 hW hv
 dsimp only [zq8t]
 (refine Y_go 600 ?_; dsimp only [Y_k, zq4u, zq8o, zq6n, Nat.reduceBEq, zq6k, YK, zq8t, zq5j, zq2f, nth, zq2e, zq6l, zq9i, normF, zq6m, zq86, zq87, zq8a, zq9y, t7n12, T7n12, zq9r, zq9q, zq5g, List.map, zq6q, zq21, zq8p, zq7u, zq73, zq0a, dropL, takeL, zq20, splice, setn, zq22, zq25, zq5h, repL, List.cons_append, List.nil_append, zq23, Nat.reduceMul, zq7t, List.length_cons, List.length_nil, Nat.reduceAdd, zq8l, zq8m, zq8k, zq24, zq26, zq9j])
 intro g5
 refine G.lit (d := 48) (n := 1) (xs := cellsD [(1, 1)]) [(48, .val (.slice (some ⟨g5, 0, none⟩) 1 1)), (0, .bf), (2, .val (.int .i64 250)), (3, .val (.slice C0 0 cc0)), (4, .val (.int .i64 0))] rfl rfl (by (simp only [setn, List.nil_append, List.cons_append, leF, leH_nil, leH_cons, leF_nil, lk, scp, scpL, scpO, resF, resH, resO, resV, resVL, nth, Nat.reduceBEq, Nat.reduceLT, decide_true, decide_false, List.length, List.length_cons, List.length_nil, Nat.reduceAdd, Bool.and_self, Bool.and_true, and_true, true_and, numF] <;> try simp)) (by (simp only [setn, List.nil_append, List.cons_append, leF, leH_nil, leH_cons, leF_nil, lk, scp, scpL, scpO, resF, resH, resO, resV, resVL, nth, Nat.reduceBEq, Nat.reduceLT, decide_true, decide_false, List.length, List.length_cons, List.length_nil, Nat.reduceAdd, Bool.and_self, Bool.and_true, and_true, true_and, numF] <;> try simp)) fun W5 hE ov2 => ?_
 replace ov := ov.trans ov2
 clear ov2
 refine call_base (vs := [.int .i64 2, .slice (some ⟨g5, 0, none⟩) 1 1]) rfl (R := fun W v w' => (∃ C cc, v = .tuple #[.slice C 1 cc, .int .i64 0] ∧ RowAt w' C (isV [1])) ∧ Fresh W w') (fun W hW => (cycle11 _ _ 2 [(1, 1)] W (hE.at hW)).mono fun _ _ hr => nmC1 hr) (fun _ _ _ hr => hr.2) fun W v W6 hW ⟨⟨C1, cc1, hv, hC⟩, _⟩ ov2 => ?_
 replace ov := ov.trans ov2
 refine ⟨.tup [.val (.slice C1 1 cc1), .val (.int .i64 0)], by rw [hv]; simp [Is, IsL], ?_⟩
 clear hE
 replace hC := (hC.toE (st := []) (by simp) 247 [])
 clear ov2 hW hv
 dsimp only [zq8t]
 (refine Y_go 600 ?_; dsimp only [Y_k, zq4u, zq8o, zq6n, Nat.reduceBEq, zq6k, YK, zq8t, zq5j, zq2f, nth, zq2e, zq6l, zq9i, normF, zq6m, zq86, zq87, zq8a, zq9y, t7n11, T7n11, zq9r, zq9q, zq9j])
 refine call_base (vs := [.int .i64 (-1), .slice none 0 0]) rfl (R := fun W v w' => (v = .tuple #[.slice none 0 0, .int .i64 2]) ∧ Fresh W w') (fun W hW => (order10 none 0 (-1) [] W (rowNil W)).mono fun _ _ hr => nmO1 hr) (fun _ _ _ hr => hr.2) fun W v W7 hW ⟨hv, _⟩ ov2 => ?_
 replace hC := hC.over ov2
 replace ov := ov.trans ov2
 refine ⟨.tup [.val (.slice none 0 0), .val (.int .i64 2)], by rw [hv]; simp [Is, IsL], ?_⟩
 clear ov2 hW hv
 dsimp only [zq8t]
 (refine Y_go 600 ?_; dsimp only [Y_k, zq4u, zq8o, zq6n, Nat.reduceBEq, zq6k, YK, zq8t, zq5j, zq2f, nth, zq2e, zq6l, zq9i, normF, zq6m, zq86, zq87, zq8a, zq9y, t7n10, T7n10, zq9r, zq9q, zq9j])
 refine call_base (vs := [.int .i64 501, .slice none 0 0]) rfl (R := fun W v w' => (v = .tuple #[.slice none 0 0, .int .i64 2]) ∧ Fresh W w') (fun W hW => (cycle11 none 0 501 [] W (rowNil W)).mono fun _ _ hr => nmC2 hr) (fun _ _ _ hr => hr.2) fun W v W8 hW ⟨hv, _⟩ ov2 => ?_
 replace hC := hC.over ov2
 replace ov := ov.trans ov2
 refine ⟨.tup [.val (.slice none 0 0), .val (.int .i64 2)], by rw [hv]; simp [Is, IsL], ?_⟩
 clear ov2 hW hv
 dsimp only [zq8t]
 (refine Y_go 600 ?_; dsimp only [Y_k, zq4u, zq8o, zq6n, Nat.reduceBEq, zq6k, YK, zq8t, zq5j, zq2f, nth, zq2e, zq6l, zq9i, normF, zq6m, zq86, zq87, zq8a, zq9y, t7n9, T7n9, zq9r, zq9q, zq5g, List.map, zq6q, zq21, zq8p, zq7u, zq73, zq0a, dropL, takeL, zq20, splice, setn, zq22, zq25, zq5h, repL, List.cons_append, List.nil_append, zq23, Nat.reduceMul, zq7t, List.length_cons, List.length_nil, Nat.reduceAdd, zq8l, zq8m, zq8k, zq24, zq26, zq9j])
 intro g9
 refine G.lit (d := 62) (n := 1) (xs := cellsD [(0, 1)]) [(62, .val (.slice (some ⟨g9, 0, none⟩) 1 1)), (0, .bf), (2, .val (.int .i64 250)), (3, .val (.slice C0 0 cc0)), (4, .val (.int .i64 0)), (5, .val (.slice C1 1 cc1)), (6, .val (.int .i64 0)), (8, .val (.int .i64 2)), (10, .val (.int .i64 2))] rfl rfl (by (simp only [setn, List.nil_append, List.cons_append, leF, leH_nil, leH_cons, leF_nil, lk, scp, scpL, scpO, resF, resH, resO, resV, resVL, nth, Nat.reduceBEq, Nat.reduceLT, decide_true, decide_false, List.length, List.length_cons, List.length_nil, Nat.reduceAdd, Bool.and_self, Bool.and_true, and_true, true_and, numF] <;> try simp)) (by (simp only [setn, List.nil_append, List.cons_append, leF, leH_nil, leH_cons, leF_nil, lk, scp, scpL, scpO, resF, resH, resO, resV, resVL, nth, Nat.reduceBEq, Nat.reduceLT, decide_true, decide_false, List.length, List.length_cons, List.length_nil, Nat.reduceAdd, Bool.and_self, Bool.and_true, and_true, true_and, numF] <;> try simp)) fun W9 hE ov2 => ?_
 replace hC := hC.over ov2
 replace ov := ov.trans ov2
 clear ov2
 refine call_base (vs := [.int .i64 1, .slice (some ⟨g9, 0, none⟩) 1 1]) rfl (R := fun W v w' => (v = .tuple #[.slice none 0 0, .int .i64 2]) ∧ Fresh W w') (fun W hW => (behind12 _ _ 1 [(0, 1)] W (hE.at hW)).mono fun _ _ hr => nmB1 hr) (fun _ _ _ hr => hr.2) fun W v W10 hW ⟨hv, _⟩ ov2 => ?_
 replace hC := hC.over ov2
 replace ov := ov.trans ov2
 refine ⟨.tup [.val (.slice none 0 0), .val (.int .i64 2)], by rw [hv]; simp [Is, IsL], ?_⟩
 clear hE
 clear ov2 hW hv
 dsimp only [zq8t]
 (refine Y_go 600 ?_; dsimp only [Y_k, zq4u, zq8o, zq6n, Nat.reduceBEq, zq6k, YK, zq8t, zq5j, zq2f, nth, zq2e, zq6l, zq9i, normF, zq6m, zq86, zq87, zq8a, zq9y, t7n8, T7n8, zq9r, zq9q, zq5g, List.map, zq6q, zq21, zq8p, zq7u, zq73, zq0a, dropL, takeL, zq20, splice, setn, zq22, zq25, zq5h, repL, List.cons_append, List.nil_append, zq23, Nat.reduceMul, zq7t, List.length_cons, List.length_nil, Nat.reduceAdd, zq8l, zq8m, zq8k, zq24, zq26, zq9j])
 intro g11
 refine G.lit (d := 69) (n := 2) (xs := cellsD [(0, 1), (1, 2)]) [(69, .val (.slice (some ⟨g11, 0, none⟩) 2 2)), (0, .bf), (2, .val (.int .i64 250)), (3, .val (.slice C0 0 cc0)), (4, .val (.int .i64 0)), (5, .val (.slice C1 1 cc1)), (6, .val (.int .i64 0)), (8, .val (.int .i64 2)), (10, .val (.int .i64 2)), (12, .val (.int .i64 2))] rfl rfl (by (simp only [setn, List.nil_append, List.cons_append, leF, leH_nil, leH_cons, leF_nil, lk, scp, scpL, scpO, resF, resH, resO, resV, resVL, nth, Nat.reduceBEq, Nat.reduceLT, decide_true, decide_false, List.length, List.length_cons, List.length_nil, Nat.reduceAdd, Bool.and_self, Bool.and_true, and_true, true_and, numF] <;> try simp)) (by (simp only [setn, List.nil_append, List.cons_append, leF, leH_nil, leH_cons, leF_nil, lk, scp, scpL, scpO, resF, resH, resO, resV, resVL, nth, Nat.reduceBEq, Nat.reduceLT, decide_true, decide_false, List.length, List.length_cons, List.length_nil, Nat.reduceAdd, Bool.and_self, Bool.and_true, and_true, true_and, numF] <;> try simp)) fun W11 hE ov2 => ?_
 replace hC := hC.over ov2
 replace ov := ov.trans ov2
 clear ov2
 refine call_base (vs := [.int .i64 3, .slice (some ⟨g11, 0, none⟩) 2 2]) rfl (R := fun W v w' => (∃ B bc gs, v = .tuple #[.slice B 3 bc, .int .i64 0] ∧ TabAt w' B gs (bhB [(0, 1), (1, 2)]) 3 3) ∧ Fresh W w') (fun W hW => (behind12 _ _ 3 [(0, 1), (1, 2)] W (hE.at hW)).mono fun _ _ hr => nmB3 hr) (fun _ _ _ hr => hr.2) fun W v W12 hW ⟨⟨B, bc, gs, hv, hB⟩, _⟩ ov2 => ?_
 replace hC := hC.over ov2
 replace ov := ov.trans ov2
 refine ⟨.tup [.val (.slice B 3 bc), .val (.int .i64 0)], by rw [hv]; simp [Is, IsL], ?_⟩
 clear hE
 have hBT : RowE ⟨W12, W12.heap.size, [], 247, []⟩ B (tabV gs 3 3) := hB.1.toE (st := []) (by simp) 247 []
 have hB0 : RowE ⟨W12, W12.heap.size, [], 247, []⟩ (some ⟨gs 0, 0, none⟩) (rwV 3 (bhB [(0, 1), (1, 2)] 0)) := (hB.2 0 (by decide)).toE (st := []) (by simp) 247 []
 have hB2 : RowE ⟨W12, W12.heap.size, [], 247, []⟩ (some ⟨gs 2, 0, none⟩) (rwV 3 (bhB [(0, 1), (1, 2)] 2)) := (hB.2 2 (by decide)).toE (st := []) (by simp) 247 []
 clear hB
 clear ov2 hW hv
 dsimp only [zq8t]
 (refine Y_go 600 ?_; dsimp only [Y_k, zq4u, zq8o, zq6n, Nat.reduceBEq, zq6k, YK, zq8t, zq5j, zq2f, nth, zq2e, zq6l, zq9i, normF, zq6m, zq86, zq87, zq8a, zq9y, t7n7, T7n7, zq9r, zq9q, zq50, zq8p, zq6q, zq04, zq92, zq9b, zq0i, zq9c, Y_gk, zq6d, YR, zq69, zq55, zq0r, zq4v, zq6p, zq0b, zq58, zq06, zq0w, Int.reduceToNat, Nat.reduceMul, zq5c, zq1p, zq1c, Nat.reduceAdd, List.nil_append, zq1b, zq18, zq1g, zq1d, zq53, zq0o, t7n6, T7n6, zq9j, YS, zq6b, zq0c])
 have sC : C1.isSome = true := RowE.isSome hC (j := 0) (by decide)
 have sB : B.isSome = true := RowE.isSome hBT (j := 0) (by simp [tabV])
 have cC := hC.cell (j := 0) (u := .int .i64 1) rfl
 have cB0 := hBT.cell (j := 0) (u := .slice (some ⟨gs 0, 0, none⟩) 3 3) (tabV_get (by decide))
 have cB2 := hBT.cell (j := 2) (u := .slice (some ⟨gs 2, 0, none⟩) 3 3) (tabV_get (by decide))
 have c02 := hB0.cell (j := 2) (u := .bool true) (by rw [rwV_get _ (by decide), nm_bh.1])
 have c00 := hB0.cell (j := 0) (u := .bool false) (by rw [rwV_get _ (by decide), nm_bh.2.1])
 have c20 := hB2.cell (j := 0) (u := .bool false) (by rw [rwV_get _ (by decide), nm_bh.2.2])
 clear hC hBT hB0 hB2
 repeat' first
  | (refine ⟨fun q => ?_, fun q => ?_⟩ <;> try exact absurd q (by decide))
  | refine ⟨⟨by decide, by decide, sC⟩, _, cC, ?_⟩
  | refine ⟨⟨by decide, by decide, sB⟩, _, _, _, cB0, ?_⟩
  | refine ⟨⟨by decide, by decide, sB⟩, _, _, _, cB2, ?_⟩
  | refine ⟨⟨by decide, by decide, rfl⟩, _, c02, ?_⟩
  | refine ⟨⟨by decide, by decide, rfl⟩, _, c00, ?_⟩
  | refine ⟨⟨by decide, by decide, rfl⟩, _, c20, ?_⟩
  | fail
 have two : ∀ {E : Env} {W : World}, E.nt = 247 → True := fun _ => trivial
 clear two cC cB0 cB2 c02 c00 c20 sC sB
 refine call_base (vs := []) rfl (R := fun W v w' => (∃ B, v = .slice B 6 6 ∧ RowAt w' B (cellsE twoL)) ∧ Fresh W w') (fun W hW => two22 W) (fun _ _ _ hr => hr.2) fun W v W13 hW ⟨⟨T1, hv, hT⟩, _⟩ ov2 => ?_
 replace ov := ov.trans ov2
 refine ⟨.val (.slice T1 6 6), by rw [hv]; simp [Is, IsL], ?_⟩
 have hTE : RowE ⟨W13, W13.heap.size, [], 247, []⟩ T1 (cellsE twoL) := hT.toE (st := []) (by simp) 247 []
 clear hT
 clear ov2 hW hv
 dsimp only [zq8t]
 (refine Y_go 600 ?_; dsimp only [zq9j])
 refine call_base (vs := [.slice T1 6 6]) rfl (R := fun W v w' => (∃ D dc, v = .tuple #[.int .i64 2, .slice D 1 dc, .int .i64 0] ∧ RowAt w' D (cellsD [(0, 1)])) ∧ Fresh W w') (fun W hW => (of18 T1 6 twoL W (hTE.at hW) (by decide)).mono fun _ _ hr => nmOf hr) (fun _ _ _ hr => hr.2) fun W v W14 hW ⟨⟨D, dc, hv, hD⟩, _⟩ ov2 => ?_
 replace hTE := hTE.over ov2
 replace ov := ov.trans ov2
 refine ⟨.tup [.val (.int .i64 2), .val (.slice D 1 dc), .val (.int .i64 0)], by rw [hv]; simp [Is, IsL], ?_⟩
 have hDE : RowE ⟨W14, W14.heap.size, [], 247, []⟩ D (cellsD [(0, 1)]) := hD.toE (st := []) (by simp) 247 []
 clear hD hTE
 clear ov2 hW hv
 dsimp only [zq8t]
 (refine Y_go 600 ?_; dsimp only [Y_k, zq4u, zq8o, zq6n, Nat.reduceBEq, zq6k, YK, zq8t, zq5j, zq2f, nth, zq2e, zq6l, zq9i, normF, zq6m, zq86, zq87, zq8a, zq9y, t7n5, T7n5, zq9r, zq9q, zq9j])
 refine call_base (vs := []) rfl (R := fun W v w' => (∃ B, v = .slice B 6 6 ∧ RowAt w' B (cellsE twoL)) ∧ Fresh W w') (fun W hW => two22 W) (fun _ _ _ hr => hr.2) fun W v W15 hW ⟨⟨T2, hv, hT⟩, _⟩ ov2 => ?_
 replace hDE := hDE.over ov2
 replace ov := ov.trans ov2
 refine ⟨.val (.slice T2 6 6), by rw [hv]; simp [Is, IsL], ?_⟩
 have hTE : RowE ⟨W15, W15.heap.size, [], 247, []⟩ T2 (cellsE twoL) := hT.toE (st := []) (by simp) 247 []
 clear hT
 clear ov2 hW hv
 dsimp only [zq8t]
 (refine Y_go 600 ?_; dsimp only [Y_k, zq5h, List.map, zq6q, repL, List.cons_append, List.nil_append, zq23, Nat.reduceMul, zq8p, zq7u, Nat.reduceBEq, zq73, zq0a, dropL, takeL, zq20, splice, setn, zq24, zq26, List.length_nil, YK, zq8t, zq9j])
 intro g16
 refine G.lit (d := 165) (n := 2) (xs := isV [0, 1]) [(165, .val (.slice (some ⟨g16, 0, none⟩) 2 2)), (15, .val (.bool !false)), (16, .val (.int .i64 2)), (17, .val (.slice D 1 dc)), (18, .val (.int .i64 0)), (164, .val (.slice T2 6 6))] rfl rfl (by (simp only [setn, List.nil_append, List.cons_append, leF, leH_nil, leH_cons, leF_nil, lk, scp, scpL, scpO, resF, resH, resO, resV, resVL, nth, Nat.reduceBEq, Nat.reduceLT, decide_true, decide_false, List.length, List.length_cons, List.length_nil, Nat.reduceAdd, Bool.and_self, Bool.and_true, and_true, true_and, numF] <;> try simp)) (by (simp only [setn, List.nil_append, List.cons_append, leF, leH_nil, leH_cons, leF_nil, lk, scp, scpL, scpO, resF, resH, resO, resV, resVL, nth, Nat.reduceBEq, Nat.reduceLT, decide_true, decide_false, List.length, List.length_cons, List.length_nil, Nat.reduceAdd, Bool.and_self, Bool.and_true, and_true, true_and, numF] <;> try simp)) fun W16 hO ov2 => ?_
 replace hDE := hDE.over ov2
 replace hTE := hTE.over ov2
 replace ov := ov.trans ov2
 clear ov2
 refine call_base (vs := [.slice T2 6 6, .slice none 0 0, .slice (some ⟨g16, 0, none⟩) 2 2]) rfl (R := fun W v w' => (v = .tuple #[.bool (exA twoL [] [0, 1]).1, .int .i64 (exA twoL [] [0, 1]).2]) ∧ Fresh W w') (fun W hW => explains20 T2 none _ 6 0 2 twoL [] [0, 1] W (hTE.at hW) (rowNil W) (hO.at hW) (by decide) (by decide) (by decide)) (fun _ _ _ hr => hr.2) fun W v W17 hW ⟨hv, _⟩ ov2 => ?_
 replace hDE := hDE.over ov2
 replace hTE := hTE.over ov2
 replace ov := ov.trans ov2
 rw [two_ex1] at hv
 refine ⟨.tup [.bt, .val (.int .i64 0)], by rw [hv]; simp [Is, IsL], ?_⟩
 clear hTE hO
 clear ov2 hW hv
 dsimp only [zq8t]
 (refine Y_go 600 ?_; dsimp only [Y_k, zq4u, zq8o, zq6n, Nat.reduceBEq, zq6k, YK, zq8t, zq5j, zq2f, nth, zq2e, zq6l, zq9i, normF, zq6m, zq86, zq87, zq89, zq9y, t7n4, T7n4, zq9r, zq9q, zq9j])
 refine call_base (vs := []) rfl (R := fun W v w' => (∃ B, v = .slice B 6 6 ∧ RowAt w' B (cellsE twoL)) ∧ Fresh W w') (fun W hW => two22 W) (fun _ _ _ hr => hr.2) fun W v W18 hW ⟨⟨T3, hv, hT⟩, _⟩ ov2 => ?_
 replace hDE := hDE.over ov2
 replace ov := ov.trans ov2
 refine ⟨.val (.slice T3 6 6), by rw [hv]; simp [Is, IsL], ?_⟩
 have hTE : RowE ⟨W18, W18.heap.size, [], 247, []⟩ T3 (cellsE twoL) := hT.toE (st := []) (by simp) 247 []
 clear hT
 clear ov2 hW hv
 dsimp only [zq8t]
 (refine Y_go 600 ?_; dsimp only [Y_k, zq5h, List.map, zq6q, repL, List.cons_append, List.nil_append, zq23, Nat.reduceMul, zq8p, zq7u, Nat.reduceBEq, zq73, zq0a, dropL, takeL, zq20, splice, setn, zq24, zq26, List.length_nil, YK, zq8t, zq9j])
 intro g19
 refine G.lit (d := 171) (n := 2) (xs := isV [1, 0]) [(171, .val (.slice (some ⟨g19, 0, none⟩) 2 2)), (15, .val (.bool !false)), (16, .val (.int .i64 2)), (17, .val (.slice D 1 dc)), (18, .val (.int .i64 0)), (19, .bt), (20, .val (.int .i64 0)), (170, .val (.slice T3 6 6))] rfl rfl (by (simp only [setn, List.nil_append, List.cons_append, leF, leH_nil, leH_cons, leF_nil, lk, scp, scpL, scpO, resF, resH, resO, resV, resVL, nth, Nat.reduceBEq, Nat.reduceLT, decide_true, decide_false, List.length, List.length_cons, List.length_nil, Nat.reduceAdd, Bool.and_self, Bool.and_true, and_true, true_and, numF] <;> try simp)) (by (simp only [setn, List.nil_append, List.cons_append, leF, leH_nil, leH_cons, leF_nil, lk, scp, scpL, scpO, resF, resH, resO, resV, resVL, nth, Nat.reduceBEq, Nat.reduceLT, decide_true, decide_false, List.length, List.length_cons, List.length_nil, Nat.reduceAdd, Bool.and_self, Bool.and_true, and_true, true_and, numF] <;> try simp)) fun W19 hO ov2 => ?_
 replace hDE := hDE.over ov2
 replace hTE := hTE.over ov2
 replace ov := ov.trans ov2
 clear ov2
 refine call_base (vs := [.slice T3 6 6, .slice none 0 0, .slice (some ⟨g19, 0, none⟩) 2 2]) rfl (R := fun W v w' => (v = .tuple #[.bool (exA twoL [] [1, 0]).1, .int .i64 (exA twoL [] [1, 0]).2]) ∧ Fresh W w') (fun W hW => explains20 T3 none _ 6 0 2 twoL [] [1, 0] W (hTE.at hW) (rowNil W) (hO.at hW) (by decide) (by decide) (by decide)) (fun _ _ _ hr => hr.2) fun W v W20 hW ⟨hv, _⟩ ov2 => ?_
 replace hDE := hDE.over ov2
 replace hTE := hTE.over ov2
 replace ov := ov.trans ov2
 rw [two_ex2] at hv
 refine ⟨.tup [.bf, .val (.int .i64 0)], by rw [hv]; simp [Is, IsL], ?_⟩
 clear hTE hO
 clear ov2 hW hv
 dsimp only [zq8t]
 (refine Y_go 600 ?_; dsimp only [Y_k, zq4u, zq8o, zq6n, Nat.reduceBEq, zq6k, YK, zq8t, zq5j, zq2f, nth, zq2e, zq6l, zq9i, normF, zq6m, zq86, zq87, zq8a, zq89, zq9y, t7n3, T7n3, zq9r, zq9q, zq9j])
 refine call_base (vs := []) rfl (R := fun W v w' => (∃ B, v = .slice B 6 6 ∧ RowAt w' B (cellsE twoL)) ∧ Fresh W w') (fun W hW => two22 W) (fun _ _ _ hr => hr.2) fun W v W21 hW ⟨⟨T4, hv, hT⟩, _⟩ ov2 => ?_
 replace hDE := hDE.over ov2
 replace ov := ov.trans ov2
 refine ⟨.val (.slice T4 6 6), by rw [hv]; simp [Is, IsL], ?_⟩
 have hTE : RowE ⟨W21, W21.heap.size, [], 247, []⟩ T4 (cellsE twoL) := hT.toE (st := []) (by simp) 247 []
 clear hT
 clear ov2 hW hv
 dsimp only [zq8t]
 (refine Y_go 600 ?_; dsimp only [Y_k, zq5h, List.map, zq6q, repL, List.cons_append, List.nil_append, zq23, Nat.reduceMul, zq8p, zq7u, Nat.reduceBEq, zq73, zq0a, dropL, takeL, zq20, splice, setn, zq24, zq26, List.length_nil, YK, zq8t, zq9j])
 intro g22
 refine G.lit (d := 177) (n := 2) (xs := isV [0, 0]) [(177, .val (.slice (some ⟨g22, 0, none⟩) 2 2)), (15, .val (.bool !false)), (16, .val (.int .i64 2)), (17, .val (.slice D 1 dc)), (18, .val (.int .i64 0)), (19, .bt), (20, .val (.int .i64 0)), (21, .bf), (22, .val (.int .i64 0)), (176, .val (.slice T4 6 6))] rfl rfl (by (simp only [setn, List.nil_append, List.cons_append, leF, leH_nil, leH_cons, leF_nil, lk, scp, scpL, scpO, resF, resH, resO, resV, resVL, nth, Nat.reduceBEq, Nat.reduceLT, decide_true, decide_false, List.length, List.length_cons, List.length_nil, Nat.reduceAdd, Bool.and_self, Bool.and_true, and_true, true_and, numF] <;> try simp)) (by (simp only [setn, List.nil_append, List.cons_append, leF, leH_nil, leH_cons, leF_nil, lk, scp, scpL, scpO, resF, resH, resO, resV, resVL, nth, Nat.reduceBEq, Nat.reduceLT, decide_true, decide_false, List.length, List.length_cons, List.length_nil, Nat.reduceAdd, Bool.and_self, Bool.and_true, and_true, true_and, numF] <;> try simp)) fun W22 hO ov2 => ?_
 replace hDE := hDE.over ov2
 replace hTE := hTE.over ov2
 replace ov := ov.trans ov2
 clear ov2
 refine call_base (vs := [.slice T4 6 6, .slice none 0 0, .slice (some ⟨g22, 0, none⟩) 2 2]) rfl (R := fun W v w' => (v = .tuple #[.bool (exA twoL [] [0, 0]).1, .int .i64 (exA twoL [] [0, 0]).2]) ∧ Fresh W w') (fun W hW => explains20 T4 none _ 6 0 2 twoL [] [0, 0] W (hTE.at hW) (rowNil W) (hO.at hW) (by decide) (by decide) (by decide)) (fun _ _ _ hr => hr.2) fun W v W23 hW ⟨hv, _⟩ ov2 => ?_
 replace hDE := hDE.over ov2
 replace hTE := hTE.over ov2
 replace ov := ov.trans ov2
 rw [two_ex3] at hv
 refine ⟨.tup [.bf, .val (.int .i64 2)], by rw [hv]; simp [Is, IsL], ?_⟩
 clear hTE hO
 clear ov2 hW hv
 dsimp only [zq8t]
 (refine Y_go 600 ?_; dsimp only [Y_k, zq4u, zq8o, zq6n, Nat.reduceBEq, zq6k, YK, zq8t, zq5j, zq2f, nth, zq2e, zq6l, zq9i, normF, zq6m, zq86, zq87, zq8a, zq89, zq9y, t7n2, T7n2, zq9r, zq9q, zq5g, List.map, zq6q, zq21, zq8p, zq7u, zq73, zq0a, dropL, takeL, zq20, splice, setn, zq22, zq25, zq5h, repL, List.cons_append, List.nil_append, zq23, Nat.reduceMul, zq7t, List.length_cons, List.length_nil, Nat.reduceAdd, zq8l, zq8m, zq8k, zq24, zq26, zq9j])
 intro g24
 refine G.lit (d := 183) (n := 1) (xs := cellsE [(⟨7, 0, 0, 0, 0, 0, 0, 0, 0⟩ : Ev)]) [(183, .val (.slice (some ⟨g24, 0, none⟩) 1 1)), (15, .val (.bool !false)), (16, .val (.int .i64 2)), (17, .val (.slice D 1 dc)), (18, .val (.int .i64 0)), (19, .bt), (20, .val (.int .i64 0)), (21, .bf), (22, .val (.int .i64 0)), (24, .val (.int .i64 2))] rfl rfl (by (simp only [setn, List.nil_append, List.cons_append, leF, leH_nil, leH_cons, leF_nil, lk, scp, scpL, scpO, resF, resH, resO, resV, resVL, nth, Nat.reduceBEq, Nat.reduceLT, decide_true, decide_false, List.length, List.length_cons, List.length_nil, Nat.reduceAdd, Bool.and_self, Bool.and_true, and_true, true_and, numF] <;> try simp)) (by (simp only [setn, List.nil_append, List.cons_append, leF, leH_nil, leH_cons, leF_nil, lk, scp, scpL, scpO, resF, resH, resO, resV, resVL, nth, Nat.reduceBEq, Nat.reduceLT, decide_true, decide_false, List.length, List.length_cons, List.length_nil, Nat.reduceAdd, Bool.and_self, Bool.and_true, and_true, true_and, numF] <;> try simp)) fun W24 hE ov2 => ?_
 replace hDE := hDE.over ov2
 replace ov := ov.trans ov2
 clear ov2
 refine call_base (vs := [.slice (some ⟨g24, 0, none⟩) 1 1, .slice none 0 0, .slice none 0 0]) rfl (R := fun W v w' => (v = .tuple #[.bool (exA [(⟨7, 0, 0, 0, 0, 0, 0, 0, 0⟩ : Ev)] [] []).1, .int .i64 (exA [(⟨7, 0, 0, 0, 0, 0, 0, 0, 0⟩ : Ev)] [] []).2]) ∧ Fresh W w') (fun W hW => explains20 _ none none 1 0 0 [(⟨7, 0, 0, 0, 0, 0, 0, 0, 0⟩ : Ev)] [] [] W (hE.at hW) (rowNil W) (rowNil W) (by decide) (by decide) (by decide)) (fun _ _ _ hr => hr.2) fun W v W25 hW ⟨hv, _⟩ ov2 => ?_
 replace hDE := hDE.over ov2
 replace ov := ov.trans ov2
 rw [ex7] at hv
 refine ⟨.tup [.bf, .val (.int .i64 120)], by rw [hv]; simp [Is, IsL], ?_⟩
 clear hE
 clear ov2 hW hv
 dsimp only [zq8t]
 (refine Y_go 600 ?_; dsimp only [Y_k, zq4u, zq8o, zq6n, Nat.reduceBEq, zq6k, YK, zq8t, zq5j, zq2f, nth, zq2e, zq6l, zq9i, normF, zq6m, zq86, zq87, zq8a, zq89, zq9y, t7n1, T7n1, zq9r, zq9q, zq5g, List.map, zq6q, zq21, zq8p, zq7u, zq73, zq0a, dropL, takeL, zq20, splice, setn, zq22, zq25, zq5h, repL, List.cons_append, List.nil_append, zq23, Nat.reduceMul, zq7t, List.length_cons, List.length_nil, Nat.reduceAdd, zq8l, zq8m, zq8k, zq24, zq26, zq9j])
 intro g26
 refine G.lit (d := 189) (n := 1) (xs := cellsE [(⟨5, 0, 0, 0, 0, 0, 0, 0, 0⟩ : Ev)]) [(189, .val (.slice (some ⟨g26, 0, none⟩) 1 1)), (15, .val (.bool !false)), (16, .val (.int .i64 2)), (17, .val (.slice D 1 dc)), (18, .val (.int .i64 0)), (19, .bt), (20, .val (.int .i64 0)), (21, .bf), (22, .val (.int .i64 0)), (24, .val (.int .i64 2)), (26, .val (.int .i64 120))] rfl rfl (by (simp only [setn, List.nil_append, List.cons_append, leF, leH_nil, leH_cons, leF_nil, lk, scp, scpL, scpO, resF, resH, resO, resV, resVL, nth, Nat.reduceBEq, Nat.reduceLT, decide_true, decide_false, List.length, List.length_cons, List.length_nil, Nat.reduceAdd, Bool.and_self, Bool.and_true, and_true, true_and, numF] <;> try simp)) (by (simp only [setn, List.nil_append, List.cons_append, leF, leH_nil, leH_cons, leF_nil, lk, scp, scpL, scpO, resF, resH, resO, resV, resVL, nth, Nat.reduceBEq, Nat.reduceLT, decide_true, decide_false, List.length, List.length_cons, List.length_nil, Nat.reduceAdd, Bool.and_self, Bool.and_true, and_true, true_and, numF] <;> try simp)) fun W26 hE ov2 => ?_
 replace hDE := hDE.over ov2
 replace ov := ov.trans ov2
 clear ov2
 refine call_base (vs := [.slice (some ⟨g26, 0, none⟩) 1 1]) rfl (R := fun W v w' => (v = .tuple #[.int .i64 0, .slice none 0 0, .int .i64 120]) ∧ Fresh W w') (fun W hW => (of18 _ 1 [(⟨5, 0, 0, 0, 0, 0, 0, 0, 0⟩ : Ev)] W (hE.at hW) (by decide)).mono fun _ _ hr => nmOf5 hr) (fun _ _ _ hr => hr.2) fun W v W27 hW ⟨hv, _⟩ ov2 => ?_
 replace hDE := hDE.over ov2
 replace ov := ov.trans ov2
 refine ⟨.tup [.val (.int .i64 0), .val (.slice none 0 0), .val (.int .i64 120)], by rw [hv]; simp [Is, IsL], ?_⟩
 clear hE
 clear ov2 hW hv
 dsimp only [zq8t]
 (refine Y_go 600 ?_; dsimp only [Y_k, zq4u, zq8o, zq6n, Nat.reduceBEq, zq6k, YK, zq8t, zq5j, zq2f, nth, zq2e, zq6l, zq9i, normF, zq6m, zq87, zq8a, zq89, zq86, zq9y, t7n0, T7n0, zq9r, zq9q, zq9j])
 refine call_base (vs := []) rfl (R := fun W v w' => (v = .bool true) ∧ Fresh W w') (fun W hW => alive9 W) (fun _ _ _ hr => hr.2) fun W v W28 hW ⟨hv, _⟩ ov2 => ?_
 replace hDE := hDE.over ov2
 replace ov := ov.trans ov2
 refine ⟨.bt, by rw [hv]; simp [Is, IsL], ?_⟩
 clear ov2 hW hv
 dsimp only [zq8t]
 (refine Y_go 600 ?_; dsimp only [Y_k, zq4u, zq8o, zq6n, Nat.reduceBEq, zq6k, YK, zq8t, zq4v, zq8p, zq6o, zq6p, zq0b, Y_gk, zq69, YR, zq6l, zq6d, zq50, zq6q, zq04, zq92, zq9b, zq0i, zq9c, zq55, zq0r, zq58, zq06, zq0w, Int.reduceToNat, Nat.reduceMul, zq5c, zq1p, zq1c, Nat.reduceAdd, List.nil_append, List.cons_append, zq1b, zq17, zq5g, List.map, zq21, zq7u, zq73, zq0a, dropL, takeL, zq20, splice, setn, zq22, zq25, zq5s, zq3o, eqSV, zq3q, zq53, zq0n, zq9i, normF, zq6m, zq87, zq8a, zq89, zq86, zq9x, YS, zq6b, zq0c])
 have sD : D.isSome = true := RowE.isSome hDE (j := 0) (by decide)
 have cD0 := hDE.cell (j := 0) (u := .int .i64 0) rfl
 have cD1 := hDE.cell (j := 1) (u := .int .i64 1) rfl
 clear hDE
 repeat' first
  | (refine ⟨fun q => ?_, fun q => ?_⟩ <;> try exact absurd q (by decide))
  | refine ⟨⟨by decide, by decide, sD⟩, _, cD0, _, cD1, ?_⟩
  | exact ret_rule (vs := [.bool true]) r7 rfl rfl fun W hW => hR _ _ ⟨rfl, (ov.heap hW).fresh'⟩
  | fail
end Go.Proofs.Ytbkpiljencaoeaa
