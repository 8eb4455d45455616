/- graph.made (2): a graph in memory. -/
import Derived.Test.YtbkpiljencaoeaaGrM0
import Derived.Test.YtbkpiljencaoeaaGrCode
set_option linter.unusedSimpArgs false
set_option linter.unusedVariables false
set_option linter.unnecessarySimpa false
namespace Go.Proofs.Ytbkpiljencaoeaa
open Go Go.Sx Go.Gr
set_option maxRecDepth 100000
theorem made24 (A : Option Addr) (c : Nat) (n : Int) (l : List Ed) (w : World) (hA : RowAt w A (cellsD l)) :
  CallsV Try.prog 24 [.int .i64 n, .slice A l.length c] w fun v w' => (¬ okG n l ∧ v = .tuple #[.pointer none, .int .i64 2] ∧ Fresh w w') ∨
   (okG n l ∧ ∃ (gm gg : Nat) (z : List (Int × NHd)), z.map (·.1) = keysR l [] ∧ v = .tuple #[.pointer (some ⟨gg, 0, none⟩), .int .i64 0] ∧ HeapOk ⟨w, w.heap.size, [], 90, []⟩ ([.map gm (kvZ (nxU l) z), .cells gg 67 [.val (.int .i64 n), .mp 0]] ++ famZ (nxU l) z) w') := by
 refine calls_go (keep := K24) (nt := 90) (svs := [.val (.int .i64 n), .val (.slice A l.length c)]) Try.func24 x24 n24 (by simp) (by simp [IsL, Is]) fun R hR => ?_
 (refine Y_go 600 ?_; dsimp only [X24, numF, Nat.reduceAdd, zq9r, zq9q, Y_k, zq4u, zq8p, zq6t, YK, zq8t, zq6q, zq9i, normF, zq6n, Nat.reduceBEq, zq6l, zq6k, zq6m, zq86, zq87, zq9y, t24n16, T24n16, zq8o, zq50, zq04, zq92, zq9b, zq0i, zq9e, Y_gk, zq6e, YS, zq6a, zq4v, zq6o, zq0b, zq89, zq9s, zq6f, YC, t24n0, T24n0, zq9x, YR, zq6c, zq9g, zq0c, zq55, zq0r, zq6h, zq8x, zq9p, t24n15, T24n15, zq60, List.length_nil, List.nil_append, zq5g, List.map, zq6v, zq21, zq7u, zq73, zq0a, dropL, takeL, zq20, splice, setn, zq83, zq7p, zq22, zq25, zq5f, zq7t, List.length_cons, zq8l, zq8m, zq8k, zq1z, List.cons_append, zq8a, zq8c, t24n14, T24n14, zq9t, zq9v])
 have bad : ∀ s, ¬ okG n l → denAll s.H s.F [4, 5] = some [.pointer none, .int .i64 2] → (∀ W, HeapOk ⟨w, w.heap.size, [], 90, []⟩ s.H W → Fresh w W) → RetG (cxOf Try.prog Try.f24 K24 T24 R) ⟨w, w.heap.size, [], 90, []⟩ s := fun s h1 h2 h3 =>
  ret_rule (vs := [.pointer none, .int .i64 2]) r24 rfl h2 fun W hW => hR _ _ (.inl ⟨h1, rfl, h3 W hW⟩)
 refine ⟨fun q => bad _ (fun h => by have := of_decide_eq_true q; unfold okG at h; omega) rfl fun W hW => hW.fresh', fun q1 => ⟨fun q => bad _ (fun h => by have := of_decide_eq_true q; unfold okG at h; omega) rfl fun W hW => hW.fresh', fun q2 => ⟨fun q => bad _ (fun h => by have := of_decide_eq_true q; unfold okG at h; omega) rfl fun W hW => hW.fresh', fun q3 => ?_⟩⟩⟩
 have q1 : 0 ≤ n := by have := of_decide_eq_false q1; omega
 have q2 : n ≤ 500 := by have := of_decide_eq_false q2; omega
 have q3 : l.length ≤ 20000 := by have := of_decide_eq_false q3; omega
 intro gm gg
 refine loop_go (α := Nat × List (Int × NHd)) (fun q => q.1 ≤ l.length ∧ q.2.map (·.1) = keyT l q.1 ∧ ∀ e ∈ l.take q.1, 0 ≤ e.1 ∧ e.1 < n ∧ 0 ≤ e.2 ∧ e.2 < n) (fun _ => ⟨w, w.heap.size, [], 90, []⟩)
  (fun q => { F := [(0, .val (.int .i64 n)), (6, .ptr 1 0), (26, .val (.slice A l.length c)), (27, .val (.int .i64 l.length)), (28, .val (.int .i64 q.1))], H := [.map gm (kvZ (nxR (l.take q.1)) q.2), .cells gg 67 [.val (.int .i64 n), .mp 0]] ++ famZ (nxR (l.take q.1)) q.2 }) (fun q => l.length - q.1) (fun _ => rfl) ?start ?round
 case start =>
  intro a W rep
  refine ⟨(0, []), ⟨Nat.zero_le _, rfl, by simp⟩, ?_⟩
  simp only [famZ, kvZ, List.map_nil, List.append_nil]
  exact rep.le (by (simp only [setn, List.nil_append, List.cons_append, leF, leH_nil, leH_cons, leF_nil, lk, scp, scpL, scpO, resF, resH, resO, resV, resVL, nth, Nat.reduceBEq, Nat.reduceLT, decide_true, decide_false, List.length, List.length_cons, List.length_nil, Nat.reduceAdd, Bool.and_self, Bool.and_true, and_true, true_and, numF] <;> try simp)) (by (simp only [setn, List.nil_append, List.cons_append, leF, leH_nil, leH_cons, leF_nil, lk, scp, scpL, scpO, resF, resH, resO, resV, resVL, nth, Nat.reduceBEq, Nat.reduceLT, decide_true, decide_false, List.length, List.length_cons, List.length_nil, Nat.reduceAdd, Bool.and_self, Bool.and_true, and_true, true_and, numF] <;> try simp))
 case round =>
  rintro ⟨i, z⟩ ⟨hi, hz, hin⟩ I again
  simp only at hi hz hin ⊢
  have hnd : (z.map (·.1)).Nodup := by rw [hz]; exact keysR_nodup _ _ (by simp)
  by_cases hlt : i < l.length
  ·have hle : l[i]? = some l[i] := List.getElem?_eq_getElem hlt
   have htk : l.take (i + 1) = l.take i ++ [l[i]] := by rw [List.take_add_one, hle]; rfl
   have hkt : keyT l (i + 1) = if l[i].1 ∈ keyT l i then keyT l i else keyT l i ++ [l[i].1] := by unfold keyT; rw [htk, keysR_snoc]
   have hnx : ∀ k, nxR (l.take (i + 1)) k = if k = l[i].1 then nxR (l.take i) k ++ [l[i].2] else nxR (l.take i) k := fun k => by rw [htk, nxR_snoc]
   have hmem : l[i] ∈ l := List.getElem_mem hlt
   have clz : ∀ k v, (edV l[i])[k]? = some v → (cellsD l)[(i : Int).toNat * 2 + k]? = some v := fun k v hk => by
    rw [Int.toNat_natCast, cellsD_get l hlt (List.getElem?_eq_some_iff.1 hk).1]; exact hk
   have sA : A.isSome = true := hA.isSome (j := i * 2) (by rw [cellsD_len]; omega)
   generalize l[i] = e at hle htk hkt hnx hmem clz
   obtain ⟨ea, eb⟩ := e
   simp only at hkt hnx
   by_cases hk : ea ∈ keyT l i
   ·obtain ⟨j, d, hj⟩ : ∃ j d, z[j]? = some (ea, d) := by
     rw [← hz] at hk
     obtain ⟨p, hp, rfl⟩ := List.mem_map.1 hk
     obtain ⟨j, hj⟩ := List.getElem?_of_mem hp
     exact ⟨j, p.2, hj⟩
    have hfl : (nxR (l.take i) ea).length ≤ 20000 := by
     have := nxR_len (l.take i) ea
     rw [List.length_take] at this; omega
    refine G.le (E' := ⟨w, w.heap.size, [], 90, []⟩) rfl (s' := { F := [(0, .val (.int .i64 n)), (6, .ptr 1 0), (26, .val (.slice A l.length c)), (27, .val (.int .i64 l.length)), (28, .val (.int .i64 i))], H := [.map gm (kvZ (nxR (l.take i)) z), .cells gg 67 [.val (.int .i64 n), .mp 0], .own 3 0 1 d.A (nxR (l.take i) ea).length d.c (isV (nxR (l.take i) ea))] ++ famZ (nxR (l.take i)) (z.eraseIdx j) }) (fun a W rep => Rep.fam' (b := [.map gm (kvZ (nxR (l.take i)) z), .cells gg 67 [.val (.int .i64 n), .mp 0]]) rep (by (simp only [setn, List.nil_append, List.cons_append, leF, leH_nil, leH_cons, leF_nil, lk, scp, scpL, scpO, resF, resH, resO, resV, resVL, nth, Nat.reduceBEq, Nat.reduceLT, decide_true, decide_false, List.length, List.length_cons, List.length_nil, Nat.reduceAdd, Bool.and_self, Bool.and_true, and_true, true_and, numF] <;> try simp)) rfl (famZ_shut _ _) (famZ_out _ hj)) ?_
    refine G.cut rfl (by (simp only [setn, List.nil_append, List.cons_append, leF, leH_nil, leH_cons, leF_nil, lk, scp, scpL, scpO, resF, resH, resO, resV, resVL, nth, Nat.reduceBEq, Nat.reduceLT, decide_true, decide_false, List.length, List.length_cons, List.length_nil, Nat.reduceAdd, Bool.and_self, Bool.and_true, and_true, true_and, numF] <;> try simp)) fun W0 hW0 hov => ?_
    have hAE : RowE ⟨W0, W0.heap.size, fps [.map gm (kvZ (nxR (l.take i)) z), .cells gg 67 [.val (.int .i64 n), .mp 0], .own 3 0 1 d.A (nxR (l.take i) ea).length d.c (isV (nxR (l.take i) ea))], 90, []⟩ A (cellsD l) := (hA.toE (by simp) 90 []).over hov
    have ce := fun k v hk => hAE.cell (clz k v hk)
    have bi : 0 ≤ (i : Int) ∧ (i : Int) < (l.length : Int) ∧ A.isSome = true := ⟨by omega, by omega, sA⟩
    have badE : ¬ (0 ≤ ea ∧ ea < n ∧ 0 ≤ eb ∧ eb < n) → ∀ s, denAll s.H s.F [4, 5] = some [.pointer none, .int .i64 2] → RetG (cxOf Try.prog Try.f24 K24 T24 R) ⟨W0, W0.heap.size, fps [.map gm (kvZ (nxR (l.take i)) z), .cells gg 67 [.val (.int .i64 n), .mp 0], .own 3 0 1 d.A (nxR (l.take i) ea).length d.c (isV (nxR (l.take i) ea))], 90, []⟩ s := fun h1 s h2 =>
     ret_rule (vs := [.pointer none, .int .i64 2]) r24 rfl h2 fun W hW => hR _ _ (.inl ⟨fun h => h1 (h.2.2.2 _ hmem), rfl, (hov.heap hW).fresh'⟩)
    (refine Y_go 600 ?_; dsimp only [zq9y, t24n6, T24n6, zq9r, zq9q, Y_k, zq50, zq8o, zq6n, Nat.reduceBEq, zq6l, zq6k, zq04, zq92, zq9b, zq0i, zq9e, YK, zq8t, zq9i, normF, zq6m, zq86, zq87, zq8c, t24n5, T24n5, zq9s, zq6h, zq8x, YC, zq9p, t24n4, T24n4, zq9t, zq58, zq06, zq0w, zq5c, zq1p, zq1c, List.nil_append, List.cons_append, zq1b, zq17, zq5e, List.length_cons, List.length_nil, Nat.reduceAdd, List.map, zq6q, zq5d, zq7t, zq8l, zq73, zq8m, zq8k, zq0a, zq1x, nth, zq1t, dropL, takeL, zq1r, splice, setn, zq8s, zq89, t24n3, T24n3, zq59, zq8p, zq10, Int.reduceToNat, Nat.reduceMul, Nat.add_zero, zq1o, zq1k, zq19, zq18, zq4u, Y_gk, zq6e, YS, zq6a, zq4v, zq6o, zq0b, zq6f, t24n1, T24n1, zq6t, zq9x, YR, zq6c, zq9h, zq0c, t24n2, T24n2, zq5i, zq29, zq5a, zq14, zq61, zq4h, zq00, zq4g, zq4f, zq5h, repL, zq23, zq7u, zq20, zq24, zq26, zq5l, zq9u, popTo, zq6i, YP, t24n13, T24n13])
    refine ⟨fun _ => ?_, fun q => absurd (of_decide_eq_false q) (by omega)⟩
    refine ⟨bi, _, ce 0 _ rfl, _, ce 1 _ rfl, fun g => ⟨by decide, fun q => badE (by have := of_decide_eq_true q; omega) _ rfl, fun q4 => ⟨by decide, fun q => badE (by have := of_decide_eq_true q; omega) _ rfl, fun q5 => ⟨by decide, fun q => badE (by have := of_decide_eq_true q; omega) _ rfl, fun q6 => ⟨by decide, fun q => badE (by have := of_decide_eq_true q; omega) _ rfl, fun q7 => ?_⟩⟩⟩⟩⟩
    have hr4 : 0 ≤ ea ∧ ea < n ∧ 0 ≤ eb ∧ eb < n := by
     have := of_decide_eq_false q4; have := of_decide_eq_false q5; have := of_decide_eq_false q6; have := of_decide_eq_false q7
     omega
    refine ⟨by decide, by decide, kvZ_keys _ _, _, mget_some _ hnd hj, .own 2 0, rfl, by decide, fun g2 => ?_⟩
    dsimp only [zq2w, nth, zq09, Nat.reduceBEq, zq08, zq2s, zq9b, zq2r, zq2n, Nat.reduceMul, zq2j, dropL, takeL, zq2k, zq8l, zq73, zq8m, zq8k, denL, den, zq2l, zq2h, Nat.reduceAdd, setn, YK, zq8t, zq9m]
    refine ⟨⟨by simp only [maxLen]; omega, by omega⟩, fun B bc => ?_⟩
    (refine still_y (by dsimp only [zq6n, Nat.reduceBEq, zq6l, zq6k, zq5c, zq8o, zq1o, nth, zq1k, List.length_cons, List.length_nil, Nat.reduceAdd, dropL, takeL, zq19, zq18]; exact ⟨rfl, det_of_den rfl⟩) ?_; refine Y_go 600 ?_; dsimp only [zq9m])
    (refine still_y (by dsimp only [zq6n, Nat.reduceBEq, zq6l, zq6k, zq5c, zq8o, zq1o, nth, zq1k, List.length_cons, List.length_nil, Nat.reduceAdd, dropL, takeL, zq19, zq18]; exact ⟨rfl, det_of_den rfl⟩) ?_; refine Y_go 600 ?_; dsimp only [Y_k, zq64, zq8o, zq6n, Nat.reduceBEq, zq6k, den, nth, zq6l, zq4j, zq00, zq92, zq4i, setn, YK, zq8s, zq9i, normF, zq6m, zq86, zq8a, zq89, zq87, zq8c, zqa1, zq9q, zq4w, zq8p, zq6q, zq04, zq9b, zq0e, zq8t, zq4u, zqa2])
    refine ⟨kvZ_keys _ _, ((i + 1 : Nat) : Int), ArOk.to (by omega) (by omega) (by omega), lend_rule fun a W rep => again (i + 1, z.set j (ea, ⟨B, bc⟩)) ⟨hlt, ?_, ?_⟩ (by simp only; omega) a W ?_⟩
    ·rw [hkt, if_pos hk, ← hz, List.map_set]
     apply List.ext_getElem?
     intro m
     rw [List.getElem?_set]
     split
     ·rename_i e; subst e
      rw [List.getElem?_map, hj, if_pos (by simpa using (List.getElem?_eq_some_iff.1 hj).1)]; rfl
     ·rfl
    ·rw [htk]
     intro e he
     rcases List.mem_append.1 he with h | h
     ·exact hin e h
     ·simp only [List.mem_singleton] at h; subst h; exact hr4
    ·simp only
     have hf1 : nxR (l.take (i + 1)) ea = nxR (l.take i) ea ++ [eb] := by rw [hnx, if_pos rfl]
     have hfo : ∀ x, x ≠ ea → nxR (l.take i) x = nxR (l.take (i + 1)) x := fun x hx => by rw [hnx, if_neg hx]
     have hl1 : (nxR (l.take (i + 1)) ea).length = (nxR (l.take i) ea).length + 1 := by rw [hf1, List.length_append]; rfl
     have e1 : mput (kvZ (nxR (l.take i)) z) (.int .i64 ea) (.slice B ((nxR (l.take i) ea).length + 1) bc) = kvZ (nxR (l.take (i + 1))) (z.set j (ea, ⟨B, bc⟩)) := by
      rw [mput_set _ _ hnd hj, ← hl1]
      exact kvZ_set (d' := ⟨B, bc⟩) hnd hj hfo
     have e2 : isV (nxR (l.take i) ea) ++ [Value.int .i64 eb] = isV (nxR (l.take (i + 1)) ea) := by rw [hf1]; unfold isV; rw [List.map_append]; rfl
     rw [e1, e2, ← hl1] at rep
     have r1 : Rep ⟨W0, W0.heap.size, fps [.map gm (kvZ (nxR (l.take i)) z), .cells gg 67 [.val (.int .i64 n), .mp 0], .own 3 0 1 d.A (nxR (l.take i) ea).length d.c (isV (nxR (l.take i) ea))], 90, []⟩ { F := [(0, .val (.int .i64 n)), (6, .ptr 1 0), (26, .val (.slice A l.length c)), (27, .val (.int .i64 l.length)), (28, .val (.int .i64 ((i + 1 : Nat) : Int)))], H := [.map gm (kvZ (nxR (l.take (i + 1))) (z.set j (ea, ⟨B, bc⟩))), .cells gg 67 [.val (.int .i64 n), .mp 0], .own 3 0 1 B (nxR (l.take (i + 1)) ea).length bc (isV (nxR (l.take (i + 1)) ea))] } a W := (rep.res.pick [0, 1, 2] (by decide)).le (by (simp only [renF, renV, renVL, renO, pickH, pickE, posOf, setn, List.nil_append, List.cons_append, leF, leH_nil, leH_cons, leF_nil, lk, scp, scpL, scpO, resF, resH, resO, resV, resVL, nth, Nat.reduceBEq, Nat.reduceLT, decide_true, decide_false, List.length, List.length_cons, List.length_nil, Nat.reduceAdd, Bool.and_self, Bool.and_true, and_true, true_and, numF] <;> try simp)) (by (simp only [renF, renV, renVL, renO, pickH, pickE, posOf, setn, List.nil_append, List.cons_append, leF, leH_nil, leH_cons, leF_nil, lk, scp, scpL, scpO, resF, resH, resO, resV, resVL, nth, Nat.reduceBEq, Nat.reduceLT, decide_true, decide_false, List.length, List.length_cons, List.length_nil, Nat.reduceAdd, Bool.and_self, Bool.and_true, and_true, true_and, numF] <;> try simp))
     have r2 := Rep.back hW0 (famZ_shut _ _) r1 (Over.refl _) rfl rfl
     exact Rep.fam' (b := [.map gm (kvZ (nxR (l.take (i + 1))) (z.set j (ea, ⟨B, bc⟩))), .cells gg 67 [.val (.int .i64 n), .mp 0]]) (r := .own 3 0 1 B (nxR (l.take (i + 1)) ea).length bc (isV (nxR (l.take (i + 1)) ea)) :: famZ (nxR (l.take i)) (z.eraseIdx j)) r2 (by (simp only [setn, List.nil_append, List.cons_append, leF, leH_nil, leH_cons, leF_nil, lk, scp, scpL, scpO, resF, resH, resO, resV, resVL, nth, Nat.reduceBEq, Nat.reduceLT, decide_true, decide_false, List.length, List.length_cons, List.length_nil, Nat.reduceAdd, Bool.and_self, Bool.and_true, and_true, true_and, numF] <;> try simp)) rfl (fun e he => by
      rcases List.mem_cons.1 he with rfl | h
      ·rfl
      ·exact famZ_shut _ _ e h) (famZ_in (d' := ⟨B, bc⟩) hnd hj hfo)
   ·refine G.cut (H1 := [.map gm (kvZ (nxR (l.take i)) z), .cells gg 67 [.val (.int .i64 n), .mp 0]]) (r := famZ (nxR (l.take i)) z) rfl (by (simp only [setn, List.nil_append, List.cons_append, leF, leH_nil, leH_cons, leF_nil, lk, scp, scpL, scpO, resF, resH, resO, resV, resVL, nth, Nat.reduceBEq, Nat.reduceLT, decide_true, decide_false, List.length, List.length_cons, List.length_nil, Nat.reduceAdd, Bool.and_self, Bool.and_true, and_true, true_and, numF] <;> try simp)) fun W0 hW0 hov => ?_
    have hAE : RowE ⟨W0, W0.heap.size, fps [.map gm (kvZ (nxR (l.take i)) z), .cells gg 67 [.val (.int .i64 n), .mp 0]], 90, []⟩ A (cellsD l) := (hA.toE (by simp) 90 []).over hov
    have ce := fun k v hk => hAE.cell (clz k v hk)
    have bi : 0 ≤ (i : Int) ∧ (i : Int) < (l.length : Int) ∧ A.isSome = true := ⟨by omega, by omega, sA⟩
    have badE : ¬ (0 ≤ ea ∧ ea < n ∧ 0 ≤ eb ∧ eb < n) → ∀ s, denAll s.H s.F [4, 5] = some [.pointer none, .int .i64 2] → RetG (cxOf Try.prog Try.f24 K24 T24 R) ⟨W0, W0.heap.size, fps [.map gm (kvZ (nxR (l.take i)) z), .cells gg 67 [.val (.int .i64 n), .mp 0]], 90, []⟩ s := fun h1 s h2 =>
     ret_rule (vs := [.pointer none, .int .i64 2]) r24 rfl h2 fun W hW => hR _ _ (.inl ⟨fun h => h1 (h.2.2.2 _ hmem), rfl, (hov.heap hW).fresh'⟩)
    (refine Y_go 600 ?_; dsimp only [zq9y, t24n6, T24n6, zq9r, zq9q, Y_k, zq50, zq8o, zq6n, Nat.reduceBEq, zq6l, zq6k, zq04, zq92, zq9b, zq0i, zq9e, YK, zq8t, zq9i, normF, zq6m, zq86, zq87, zq8c, t24n5, T24n5, zq9s, zq6h, zq8x, YC, zq9p, t24n4, T24n4, zq9t, zq58, zq06, zq0w, zq5c, zq1p, zq1c, List.nil_append, List.cons_append, zq1b, zq17, zq5e, List.length_cons, List.length_nil, Nat.reduceAdd, List.map, zq6q, zq5d, zq7t, zq8l, zq73, zq8m, zq8k, zq0a, zq1x, nth, zq1t, dropL, takeL, zq1r, splice, setn, zq8s, zq89, t24n3, T24n3, zq59, zq8p, zq10, Int.reduceToNat, Nat.reduceMul, Nat.add_zero, zq1o, zq1k, zq19, zq18, zq4u, Y_gk, zq6e, YS, zq6a, zq4v, zq6o, zq0b, zq6f, t24n1, T24n1, zq6t, zq9x, YR, zq6c, zq9h, zq0c, t24n2, T24n2, zq5i, zq29, zq5a, zq14, zq61, zq4h, zq00, zq4g, zq4f, zq5h, repL, zq23, zq7u, zq20, zq24, zq26, zq5l, zq9u, popTo, zq6i, YP, t24n13, T24n13])
    refine ⟨fun _ => ?_, fun q => absurd (of_decide_eq_false q) (by omega)⟩
    refine ⟨bi, _, ce 0 _ rfl, _, ce 1 _ rfl, fun g => ⟨by decide, fun q => badE (by have := of_decide_eq_true q; omega) _ rfl, fun q4 => ⟨by decide, fun q => badE (by have := of_decide_eq_true q; omega) _ rfl, fun q5 => ⟨by decide, fun q => badE (by have := of_decide_eq_true q; omega) _ rfl, fun q6 => ⟨by decide, fun q => badE (by have := of_decide_eq_true q; omega) _ rfl, fun q7 => ?_⟩⟩⟩⟩⟩
    have hr4 : 0 ≤ ea ∧ ea < n ∧ 0 ≤ eb ∧ eb < n := by
     have := of_decide_eq_false q4; have := of_decide_eq_false q5; have := of_decide_eq_false q6; have := of_decide_eq_false q7
     omega
    refine ⟨by decide, by decide, kvZ_keys _ _, none, mget_none _ z ea (by rw [hz]; exact hk), .val (.slice none 0 0), rfl, by decide, fun g2 => ?_⟩
    dsimp only [zq2v, zq2r, zq2n, Nat.reduceMul, nth, zq2j, dropL, takeL, zq2k, zq8l, zq73, zq8m, zq8k, denL, den, zq9b, zq2l, zq2g, List.length_cons, List.length_nil, Nat.reduceAdd, List.cons_append, List.nil_append, YK, zq8t, zq9m]
    refine ⟨⟨by simp only [maxLen]; omega, by omega⟩, fun B bc => ?_⟩
    (refine still_y (by dsimp only [zq6n, Nat.reduceBEq, zq6l, zq6k, zq5c, zq8o, zq1o, nth, zq1k, List.length_cons, List.length_nil, Nat.reduceAdd, dropL, takeL, zq19, zq18]; exact ⟨rfl, det_of_den rfl⟩) ?_; refine Y_go 600 ?_; dsimp only [zq9m])
    (refine still_y (by dsimp only [zq6n, Nat.reduceBEq, zq6l, zq6k, zq5c, zq8o, zq1o, nth, zq1k, List.length_cons, List.length_nil, Nat.reduceAdd, dropL, takeL, zq19, zq18]; exact ⟨rfl, det_of_den rfl⟩) ?_; refine Y_go 600 ?_; dsimp only [Y_k, zq64, zq8o, zq6n, Nat.reduceBEq, zq6k, den, nth, zq6l, zq4j, zq00, zq92, zq4i, setn, YK, zq8s, zq9i, normF, zq6m, zq86, zq8a, zq89, zq87, zq8c, zqa1, zq9q, zq4w, zq8p, zq6q, zq04, zq9b, zq0e, zq8t, zq4u, zqa2])
    refine ⟨kvZ_keys _ _, ((i + 1 : Nat) : Int), ArOk.to (by omega) (by omega) (by omega), lend_rule fun a W rep => again (i + 1, z ++ [(ea, ⟨B, bc⟩)]) ⟨hlt, ?_, ?_⟩ (by simp only; omega) a W ?_⟩
    ·rw [List.map_append, hz, hkt, if_neg hk]; rfl
    ·rw [htk]
     intro e he
     rcases List.mem_append.1 he with h | h
     ·exact hin e h
     ·simp only [List.mem_singleton] at h; subst h; exact hr4
    ·have hknz : ea ∉ z.map (·.1) := by rw [hz]; exact hk
     have hfe : nxR (l.take i) ea = [] := nxR_none hk
     have hcz : ∀ p ∈ z, nxR (l.take i) p.1 = nxR (l.take (i + 1)) p.1 := fun p hp => by
      rw [hnx, if_neg]
      exact fun e => hknz (by rw [← e]; exact List.mem_map.2 ⟨p, hp, rfl⟩)
     have hf1 : nxR (l.take (i + 1)) ea = [eb] := by rw [hnx, if_pos rfl, hfe]; rfl
     have e1 : mput (kvZ (nxR (l.take i)) z) (.int .i64 ea) (.slice B 1 bc) = kvZ (nxR (l.take (i + 1))) (z ++ [(ea, ⟨B, bc⟩)]) := by
      rw [mput_new _ _ z ea hknz, kvZ_congr hcz]
      unfold kvZ; rw [List.map_append]
      simp only [List.map_cons, List.map_nil, hf1]; rfl
     have e2 : famZ (nxR (l.take (i + 1))) (z ++ [(ea, ⟨B, bc⟩)]) = famZ (nxR (l.take i)) z ++ [.own 3 0 1 B 1 bc [.int .i64 eb]] := by
      rw [famZ_congr hcz]
      unfold famZ; rw [List.map_append]
      simp only [List.map_cons, List.map_nil, hf1]; rfl
     rw [e1] at rep
     simp only [e2]
     have r1 : Rep ⟨W0, W0.heap.size, fps [.map gm (kvZ (nxR (l.take i)) z), .cells gg 67 [.val (.int .i64 n), .mp 0]], 90, []⟩ { F := [(0, .val (.int .i64 n)), (6, .ptr 1 0), (26, .val (.slice A l.length c)), (27, .val (.int .i64 l.length)), (28, .val (.int .i64 ((i + 1 : Nat) : Int)))], H := [.map gm (kvZ (nxR (l.take (i + 1))) (z ++ [(ea, ⟨B, bc⟩)])), .cells gg 67 [.val (.int .i64 n), .mp 0], .own 3 0 1 B 1 bc [.int .i64 eb]] } a W := (rep.res.pick [0, 1, 4] (by decide)).le (by (simp only [renF, renV, renVL, renO, pickH, pickE, posOf, setn, List.nil_append, List.cons_append, leF, leH_nil, leH_cons, leF_nil, lk, scp, scpL, scpO, resF, resH, resO, resV, resVL, nth, Nat.reduceBEq, Nat.reduceLT, decide_true, decide_false, List.length, List.length_cons, List.length_nil, Nat.reduceAdd, Bool.and_self, Bool.and_true, and_true, true_and, numF] <;> try simp)) (by (simp only [renF, renV, renVL, renO, pickH, pickE, posOf, setn, List.nil_append, List.cons_append, leF, leH_nil, leH_cons, leF_nil, lk, scp, scpL, scpO, resF, resH, resO, resV, resVL, nth, Nat.reduceBEq, Nat.reduceLT, decide_true, decide_false, List.length, List.length_cons, List.length_nil, Nat.reduceAdd, Bool.and_self, Bool.and_true, and_true, true_and, numF] <;> try simp))
     have r2 := Rep.back hW0 (famZ_shut _ _) r1 (Over.refl _) rfl rfl
     exact Rep.fam' (b := [.map gm (kvZ (nxR (l.take (i + 1))) (z ++ [(ea, ⟨B, bc⟩)])), .cells gg 67 [.val (.int .i64 n), .mp 0]]) (r := [.own 3 0 1 B 1 bc [.int .i64 eb]] ++ famZ (nxR (l.take i)) z) r2 (by (simp only [setn, List.nil_append, List.cons_append, leF, leH_nil, leH_cons, leF_nil, lk, scp, scpL, scpO, resF, resH, resO, resV, resVL, nth, Nat.reduceBEq, Nat.reduceLT, decide_true, decide_false, List.length, List.length_cons, List.length_nil, Nat.reduceAdd, Bool.and_self, Bool.and_true, and_true, true_and, numF] <;> try simp)) rfl (fun e he => by
      rcases List.mem_append.1 he with h | h
      ·simp only [List.mem_singleton] at h; subst h; rfl
      ·exact famZ_shut _ _ e h) List.perm_append_comm
  ·have hie : i = l.length := by omega
   subst hie
   rw [List.take_of_length_le (Nat.le_refl _)] at hin ⊢
   have hz : z.map (·.1) = keysR l [] := by rw [hz]; unfold keyT; rw [List.take_of_length_le (Nat.le_refl _)]
   have hok : okG n l := ⟨q1, q2, q3, hin⟩
   clear again
   refine G.le (E' := ⟨w, w.heap.size, [], 90, []⟩) rfl (s' := { F := [(0, .val (.int .i64 n)), (6, .ptr 1 0), (27, .val (.int .i64 l.length)), (28, .val (.int .i64 l.length))], H := [.map gm (kvZ (nxR l) z), .cells gg 67 [.val (.int .i64 n), .mp 0]] ++ famZ (nxR l) z }) (fun a W rep => rep.few 2 (by (simp only [setn, List.nil_append, List.cons_append, leF, leH_nil, leH_cons, leF_nil, lk, scp, scpL, scpO, resF, resH, resO, resV, resVL, nth, Nat.reduceBEq, Nat.reduceLT, decide_true, decide_false, List.length, List.length_cons, List.length_nil, Nat.reduceAdd, Bool.and_self, Bool.and_true, and_true, true_and, numF] <;> try simp))) ?_
   (refine Y_go 9 ?_; dsimp only [List.cons_append, List.nil_append, zq9y, t24n6, T24n6, zq9r, zq9q, Y_k, zq50, zq8o, zq6n, Nat.reduceBEq, zq6l, zq6k, zq04, zq92, zq9b, zq0i, zq9e, YK, zq8t, zq9i, normF, zq6m, zq86, zq87, zq8c, t24n5, T24n5, zq9s, zq6h, zq8x, YC, zq9p, Y_0, zq9u, popTo, zq6i, YP])
   refine ⟨fun h => absurd (of_decide_eq_true h) (by omega), fun _ => ?_⟩
   refine G.le (E' := ⟨w, w.heap.size, [], 90, []⟩) rfl (s' := { F := [(0, .val (.int .i64 n)), (6, .ptr 1 0)], H := [.map gm (kvZ (nxR l) z), .cells gg 67 [.val (.int .i64 n), .mp 0]] ++ famZ (nxR l) z }) (fun a W rep => rep.few 2 (by (simp only [setn, List.nil_append, List.cons_append, leF, leH_nil, leH_cons, leF_nil, lk, scp, scpL, scpO, resF, resH, resO, resV, resVL, nth, Nat.reduceBEq, Nat.reduceLT, decide_true, decide_false, List.length, List.length_cons, List.length_nil, Nat.reduceAdd, Bool.and_self, Bool.and_true, and_true, true_and, numF] <;> try simp))) ?_
   exact made24t w n l gm gg z hz q3 fun W hW => hR _ _ (.inr ⟨hok, gm, gg, z, hz, rfl, hW⟩)
end Go.Proofs.Ytbkpiljencaoeaa
