/- The chapter's first two examples. -/
import Derived.Test.YtbkpiljencaoeaaGrO1
import Derived.Test.YtbkpiljencaoeaaGrReach
import Derived.Test.YtbkpiljencaoeaaGrCode
set_option linter.unusedSimpArgs false
set_option linter.unusedVariables false
set_option linter.unnecessarySimpa false
namespace Go.Proofs.Ytbkpiljencaoeaa
open Go Go.Sx Go.Gr
set_option maxRecDepth 100000
theorem own_rowE {w' : World} {A : Option Addr} {n c : Nat} {xs : List Value} {N : Nat} (h : World.ownsB w' N 3 1 (.slice A n c) n xs) (nt : Nat) (mk : List Nat) : RowE ⟨w', w'.heap.size, [], nt, mk⟩ A xs := (RowAt.of_own h rfl).toE (st := []) (by simp) nt mk
theorem alive9 (w : World) : CallsV Try.prog 9 [] w fun v w' => v = .bool true ∧ Fresh w w' := by
 refine calls_go (keep := K9) (nt := 79) (svs := []) Try.func9 x9 n9 (by simp) (by simp [IsL, Is]) fun R hR => ?_
 (refine Y_go 600 ?_; dsimp only [X9, numF, zq9r, zq9q, Y_k, zq4u, zq8p, zq6p, YK, zq8t, zq9i, normF, zq6n, Nat.reduceBEq, zq6k, zq6l, zq6m, zq86, zq8a, zq9y, t9n2, T9n2, zq5g, List.map, zq6q, zq21, zq7u, zq73, zq0a, dropL, takeL, zq20, splice, setn, zq22, zq25, zq5h, repL, List.cons_append, List.nil_append, zq23, Nat.reduceMul, zq8o, zq7t, List.length_cons, List.length_nil, Nat.reduceAdd, zq8l, zq8m, zq8k, zq24, zq26, zq9j])
 intro g
 refine G.le (E' := ⟨w, w.heap.size, [], 79, []⟩) rfl (s' := { F := [(8, .val (.slice (some ⟨g, 0, none⟩) 2 2))], H := [] ++ [.own 28 0 2 (some ⟨g, 0, none⟩) 2 2 (cellsD [(3, 1), (1, 0)])] }) (fun a W rep => ?_) ?_
 ·have r1 := ((rep.ownC 8 (i := 0) (n := 2) (sz := 2) (xs := cellsD [(3, 1), (1, 0)]) rfl rfl rfl rfl (by decide)).pick [1] (by decide))
  have r2 : Rep ⟨w, w.heap.size, [], 79, []⟩ { F := [(8, .own 0 0)], H := [.own 28 0 2 (some ⟨g, 0, none⟩) 2 2 (cellsD [(3, 1), (1, 0)])] } a W := r1.le (by (simp only [renF, renV, renVL, renO, pickH, pickE, posOf, setn, List.nil_append, List.cons_append, leF, leH_nil, leH_cons, leF_nil, lk, scp, scpL, scpO, resF, resH, resO, resV, resVL, nth, Nat.reduceBEq, Nat.reduceLT, decide_true, decide_false, List.length, List.length_cons, List.length_nil, Nat.reduceAdd, Bool.and_self, Bool.and_true, and_true, true_and, numF] <;> try simp)) (by (simp only [renF, renV, renVL, renO, pickH, pickE, posOf, setn, List.nil_append, List.cons_append, leF, leH_nil, leH_cons, leF_nil, lk, scp, scpL, scpO, resF, resH, resO, resV, resVL, nth, Nat.reduceBEq, Nat.reduceLT, decide_true, decide_false, List.length, List.length_cons, List.length_nil, Nat.reduceAdd, Bool.and_self, Bool.and_true, and_true, true_and, numF] <;> try simp))
  exact (r2.plain 8 rfl rfl).le (by (simp only [setn, List.nil_append, List.cons_append, leF, leH_nil, leH_cons, leF_nil, lk, scp, scpL, scpO, resF, resH, resO, resV, resVL, nth, Nat.reduceBEq, Nat.reduceLT, decide_true, decide_false, List.length, List.length_cons, List.length_nil, Nat.reduceAdd, Bool.and_self, Bool.and_true, and_true, true_and, numF] <;> try simp)) (by (simp only [setn, List.nil_append, List.cons_append, leF, leH_nil, leH_cons, leF_nil, lk, scp, scpL, scpO, resF, resH, resO, resV, resVL, nth, Nat.reduceBEq, Nat.reduceLT, decide_true, decide_false, List.length, List.length_cons, List.length_nil, Nat.reduceAdd, Bool.and_self, Bool.and_true, and_true, true_and, numF] <;> try simp))
 refine G.cut (H1 := []) rfl (by (simp only [setn, List.nil_append, List.cons_append, leF, leH_nil, leH_cons, leF_nil, lk, scp, scpL, scpO, resF, resH, resO, resV, resVL, nth, Nat.reduceBEq, Nat.reduceLT, decide_true, decide_false, List.length, List.length_cons, List.length_nil, Nat.reduceAdd, Bool.and_self, Bool.and_true, and_true, true_and, numF] <;> try simp)) fun W0 hW0 hov => ?_
 have hA : RowE ⟨W0, W0.heap.size, fps [], 79, []⟩ (some ⟨g, 0, none⟩) (cellsD [(3, 1), (1, 0)]) := hW0.offO (t := 28) (ver := 0) (sz := 2) (n := 2) (c := 2) (by simp) 79 []
 refine call_base (vs := [.int .i64 4, .slice (some ⟨g, 0, none⟩) 2 2]) rfl (R := fun W v w' => OrdR W 4 [(3, 1), (1, 0)] v w') (fun W hW => order10 _ _ 4 [(3, 1), (1, 0)] W (hA.at hW)) (fun _ _ _ hr => hr.2) fun W v W' hW hr ov => ?_
 obtain ⟨B, bc, hv, hB⟩ : ∃ B bc, v = .tuple #[.slice B 4 bc, .int .i64 0] ∧ World.ownsB W' W.heap.size 3 1 (.slice B 4 bc) 4 (isV [2, 3, 1, 0]) := by
  have e : ordL [(3, 1), (1, 0)] (4 : Int).toNat = [2, 3, 1, 0] := alive_ord
  rcases hr.1 with ⟨h, _⟩ | ⟨_, h, _⟩ | ⟨_, _, B, bc, h1, h2⟩
  ·exact absurd (by decide) h
  ·rw [e] at h; exact absurd h (by decide)
  ·rw [e] at h1 h2; exact ⟨B, bc, h1, h2⟩
 clear hr
 refine ⟨.tup [.val (.slice B 4 bc), .val (.int .i64 0)], by rw [hv]; simp [Is, IsL], ?_⟩
 have hBE : RowE ⟨W', W'.heap.size, [], 79, []⟩ B (isV [2, 3, 1, 0]) := own_rowE hB 79 []
 have ov2 : Over ⟨w, w.heap.size, [], 79, []⟩ ⟨W', W'.heap.size, [], 79, []⟩ := hov.trans ov
 clear hB hv ov hov hW hA hW0
 show G (cxOf Try.prog Try.f9 K9 T9 R) ⟨W', W'.heap.size, [], 79, []⟩ _ { F := [(9, .tup [.val (.slice B 4 bc), .val (.int .i64 0)]), (8, .val (.slice (some ⟨g, 0, none⟩) 2 2))], H := [] }
 (refine Y_go 600 ?_; dsimp only [Y_k, zq4u, zq8o, zq6n, Nat.reduceBEq, zq6k, YK, zq8t, zq5j, zq2f, nth, zq2e, zq6l, zq9i, normF, zq6m, zq86, zq87, zq9y, t9n1, T9n1, zq9r, zq9q, zq5g, List.map, zq6q, zq21, zq8p, zq7u, zq73, zq0a, dropL, takeL, zq20, splice, setn, zq22, zq25, zq5h, repL, List.cons_append, List.nil_append, zq23, Nat.reduceMul, zq7t, List.length_cons, List.length_nil, Nat.reduceAdd, zq8l, zq8m, zq8k, zq24, zq26, zq9j])
 intro g2
 refine G.le (E' := ⟨W', W'.heap.size, [], 79, []⟩) rfl (s' := { F := [(17, .val (.slice (some ⟨g2, 0, none⟩) 4 4)), (1, .val (.slice B 4 bc)), (2, .val (.int .i64 0))], H := [] ++ [.own 28 0 2 (some ⟨g2, 0, none⟩) 4 4 (cellsD [(0, 2), (2, 3), (3, 2), (3, 0)])] }) (fun a W rep => ?_) ?_
 ·have r1 := ((rep.ownC 17 (i := 0) (n := 4) (sz := 2) (xs := cellsD [(0, 2), (2, 3), (3, 2), (3, 0)]) rfl rfl rfl rfl (by decide)).pick [1] (by decide))
  have r2 : Rep ⟨W', W'.heap.size, [], 79, []⟩ { F := [(17, .own 0 0), (1, .val (.slice B 4 bc)), (2, .val (.int .i64 0))], H := [.own 28 0 2 (some ⟨g2, 0, none⟩) 4 4 (cellsD [(0, 2), (2, 3), (3, 2), (3, 0)])] } a W := r1.le (by (simp only [renF, renV, renVL, renO, pickH, pickE, posOf, setn, List.nil_append, List.cons_append, leF, leH_nil, leH_cons, leF_nil, lk, scp, scpL, scpO, resF, resH, resO, resV, resVL, nth, Nat.reduceBEq, Nat.reduceLT, decide_true, decide_false, List.length, List.length_cons, List.length_nil, Nat.reduceAdd, Bool.and_self, Bool.and_true, and_true, true_and, numF] <;> try simp)) (by (simp only [renF, renV, renVL, renO, pickH, pickE, posOf, setn, List.nil_append, List.cons_append, leF, leH_nil, leH_cons, leF_nil, lk, scp, scpL, scpO, resF, resH, resO, resV, resVL, nth, Nat.reduceBEq, Nat.reduceLT, decide_true, decide_false, List.length, List.length_cons, List.length_nil, Nat.reduceAdd, Bool.and_self, Bool.and_true, and_true, true_and, numF] <;> try simp))
  exact (r2.plain 17 rfl rfl).le (by (simp only [setn, List.nil_append, List.cons_append, leF, leH_nil, leH_cons, leF_nil, lk, scp, scpL, scpO, resF, resH, resO, resV, resVL, nth, Nat.reduceBEq, Nat.reduceLT, decide_true, decide_false, List.length, List.length_cons, List.length_nil, Nat.reduceAdd, Bool.and_self, Bool.and_true, and_true, true_and, numF] <;> try simp)) (by (simp only [setn, List.nil_append, List.cons_append, leF, leH_nil, leH_cons, leF_nil, lk, scp, scpL, scpO, resF, resH, resO, resV, resVL, nth, Nat.reduceBEq, Nat.reduceLT, decide_true, decide_false, List.length, List.length_cons, List.length_nil, Nat.reduceAdd, Bool.and_self, Bool.and_true, and_true, true_and, numF] <;> try simp))
 refine G.cut (H1 := []) rfl (by (simp only [setn, List.nil_append, List.cons_append, leF, leH_nil, leH_cons, leF_nil, lk, scp, scpL, scpO, resF, resH, resO, resV, resVL, nth, Nat.reduceBEq, Nat.reduceLT, decide_true, decide_false, List.length, List.length_cons, List.length_nil, Nat.reduceAdd, Bool.and_self, Bool.and_true, and_true, true_and, numF] <;> try simp)) fun W0 hW0 hov => ?_
 have hA : RowE ⟨W0, W0.heap.size, fps [], 79, []⟩ (some ⟨g2, 0, none⟩) (cellsD [(0, 2), (2, 3), (3, 2), (3, 0)]) := hW0.offO (t := 28) (ver := 0) (sz := 2) (n := 4) (c := 4) (by simp) 79 []
 refine call_base (vs := [.int .i64 4, .slice (some ⟨g2, 0, none⟩) 4 4]) rfl (R := fun W v w' => ∃ C cc, v = .tuple #[.slice C 3 cc, .int .i64 0] ∧ World.ownsB w' W.heap.size 3 1 (.slice C 3 cc) 3 (isV [0, 2, 3]) ∧ Fresh W w') (fun W hW => (cycle11 _ _ 4 [(0, 2), (2, 3), (3, 2), (3, 0)] W (hA.at hW)).mono ?_) (fun _ _ _ ⟨_, _, _, _, hr⟩ => hr) fun W v W2 hW ⟨C, cc, hv, hC, _⟩ ov => ?_
 ·have e : cycL [(0, 2), (2, 3), (3, 2), (3, 0)] (4 : Int).toNat = [0, 2, 3] := alive_cyc
  rintro v w' (⟨h, _⟩ | ⟨_, C, cc, h1, h2, h3⟩)
  ·exact absurd (by decide) h
  ·rw [e] at h1 h2; exact ⟨C, cc, h1, h2, h3⟩
 refine ⟨.tup [.val (.slice C 3 cc), .val (.int .i64 0)], by rw [hv]; simp [Is, IsL], ?_⟩
 have hCE : RowE ⟨W2, W2.heap.size, [], 79, []⟩ C (isV [0, 2, 3]) := own_rowE hC 79 []
 have ov3 : Over ⟨W', W'.heap.size, [], 79, []⟩ ⟨W2, W2.heap.size, [], 79, []⟩ := hov.trans ov
 replace hBE := hBE.over ov3
 have ov4 := ov2.trans ov3
 clear hC hv ov hov hW hA hW0
 show G (cxOf Try.prog Try.f9 K9 T9 R) ⟨W2, W2.heap.size, [], 79, []⟩ _ { F := [(18, .tup [.val (.slice C 3 cc), .val (.int .i64 0)]), (17, .val (.slice (some ⟨g2, 0, none⟩) 4 4)), (1, .val (.slice B 4 bc)), (2, .val (.int .i64 0))], H := [] }
 (refine Y_go 600 ?_; dsimp only [Y_k, zq4u, zq8o, zq6n, Nat.reduceBEq, zq6k, YK, zq8t, zq5j, zq2f, nth, zq2e, zq6l, zq9i, normF, zq6m, zq87, zq86, zq9y, t9n0, T9n0, zq9r, zq9q, zq50, zq8p, zq6q, zq04, zq92, zq9b, zq0i, zq9c, Y_gk, zq6d, YR, zq69, zq55, zq0r, zq4v, zq6p, zq0b, zq58, zq06, zq0w, Int.reduceToNat, Nat.reduceMul, zq5c, zq1p, zq1c, Nat.reduceAdd, List.nil_append, zq1b, zq18, zq9x, YS, zq6b, zq0c, zq8a])
 have sB : B.isSome = true := hBE.isSome (j := 0) (by simp [isV])
 have sC : C.isSome = true := hCE.isSome (j := 0) (by simp [isV])
 have cB : ∀ k v, (isV [2, 3, 1, 0])[k]? = some v → CellAt ⟨W2, W2.heap.size, [], 79, []⟩ B k v := fun k v h => hBE.cell h
 have cC : ∀ k v, (isV [0, 2, 3])[k]? = some v → CellAt ⟨W2, W2.heap.size, [], 79, []⟩ C k v := fun k v h => hCE.cell h
 refine ⟨fun _ => ⟨fun _ => ⟨⟨by decide, by decide, sB⟩, 2, cB 0 _ rfl, ⟨fun _ => ⟨⟨by decide, by decide, sB⟩, 3, cB 1 _ rfl, ⟨fun _ => ⟨⟨by decide, by decide, sB⟩, 1, cB 2 _ rfl, ⟨fun _ => ⟨⟨by decide, by decide, sB⟩, 0, cB 3 _ rfl, ⟨fun _ => ⟨fun _ => ⟨fun _ => ⟨⟨by decide, by decide, sC⟩, 0, cC 0 _ rfl, ⟨fun _ => ⟨⟨by decide, by decide, sC⟩, 2, cC 1 _ rfl, ⟨fun _ => ⟨⟨by decide, by decide, sC⟩, 3, cC 2 _ rfl, ?_⟩, fun h => absurd h (by decide)⟩⟩, fun h => absurd h (by decide)⟩⟩, fun h => absurd h (by decide)⟩, fun h => absurd h (by decide)⟩, fun h => absurd h (by decide)⟩⟩, fun h => absurd h (by decide)⟩⟩, fun h => absurd h (by decide)⟩⟩, fun h => absurd h (by decide)⟩⟩, fun h => absurd h (by decide)⟩, fun h => absurd h (by decide)⟩
 exact ret_rule (vs := [.bool true]) r9 rfl rfl fun W hW => hR _ _ ⟨rfl, (ov4.heap hW).fresh'⟩
end Go.Proofs.Ytbkpiljencaoeaa
