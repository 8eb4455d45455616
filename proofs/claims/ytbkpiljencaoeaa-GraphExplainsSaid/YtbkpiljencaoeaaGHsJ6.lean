/- hist.Judge. -/
import Derived.Test.YtbkpiljencaoeaaGHsJ5
import Derived.Test.YtbkpiljencaoeaaGHsCodeJ
set_option linter.unusedSimpArgs false
set_option linter.unusedVariables false
set_option linter.unnecessarySimpa false
namespace Go.Proofs.Ytbkpiljencaoeaa
open Go Go.Sx Go.Hs
set_option maxRecDepth 100000
def frst (p : Nat → Bool) : Nat → Option Nat
 | 0 => none
 | n + 1 => match frst p n with
  | some m => some m
  | none => if p n then some n else none
theorem frst_hit {p : Nat → Bool} {n : Nat} (h0 : frst p n = none) (h1 : p n = true) : ∀ {m : Nat}, n < m → frst p m = some n
 | 0, h => by omega
 | m + 1, h => by
  by_cases e : n = m
  ·subst e; simp only [frst]; rw [h0, h1]; rfl
  ·simp only [frst]; rw [frst_hit h0 h1 (m := m) (by omega)]
theorem frst_miss {p : Nat → Bool} {n : Nat} (h0 : frst p n = none) (h1 : p n = false) : frst p (n + 1) = none := by
 simp only [frst]; rw [h0, h1]; rfl
def judR (h : List Ev) (l : List At) (first : List Int) : Value :=
 .tuple #[.int .i64 ((frst (badAt h l (begL first)) h.length).getD 0 : Nat), .bool (frst (badAt h l (begL first)) h.length).isNone, .int .i64 0]
theorem judge40 (A A' : Option Addr) (c c' : Nat) (h : List Ev) (first : List Int) (w : World) (hA : RowAt w A (cellsE h)) (hF : RowAt w A' (first.map uV)) (hl : h.length ≤ 1000) (hfl : first.length ≤ 100000) :
  CallsV Try.prog 23 [.slice A h.length c, .slice A' first.length c'] w fun v w' => ((splitL h = none ∧ v = .tuple #[.int .i64 0, .bool false, .int .i64 120]) ∨ ∃ l, splitL h = some l ∧ v = judR h l first) ∧ Fresh w w' := by
 refine calls_goM (keep := K23) (nt := 43) (svs := [.val (.slice A h.length c), .val (.slice A' first.length c')]) Try.func23 x23 n23 (by simp) (by simp [IsL, Is]) fun R hR => ?_
 (refine Y_goM 600 ?_; dsimp only [X23, numF, Nat.reduceAdd, zq9r, zq9q, Y_k, zq5f, zq8o, zq6n, Nat.reduceBEq, zq6k, zq7u, zq77, zq0a, zq1z, List.length_nil, List.nil_append, YK, zq8t, zq5e, List.length_cons, List.map, zq6q, List.cons_append, zq6p, zq9i, normF, zq6l, zq6m, zq86, zq8c, zq87, zq9y, t23n10, T23n10, zq5c, zq1o, nth, zq1k, dropL, takeL, zq19, zq18, zq9j])
 intro g0 g1 g2 g3
 refine call_base (vs := [.slice A h.length c]) rfl (R := fun W v w' => (splitL h = none ∧ v = .tuple #[.slice none 0 0, .int .i64 120] ∧ Fresh W w') ∨
   (∃ (z : List (At × Hd)) (B : Option Addr) (bc : Nat), splitL h = some (z.map (·.1)) ∧ v = .tuple #[.slice B z.length bc, .int .i64 0] ∧ HeapOk ⟨W, W.heap.size, [], 67, []⟩ ([.own 94 0 1 B z.length bc (ptrs z)] ++ famQ 114 85 z) w')) (fun W hW => split54 A c h W (hA.keep hW.fresh') hl) (fun _ _ _ hr => by
    rcases hr with ⟨_, _, hf⟩ | ⟨_, _, _, _, _, hh⟩
    ·exact hf
    ·exact hh.fresh') fun W v W' hW hr ov => ?_
 have hst : ∀ g ∈ fps [SO.cells g0 39 [.val (.slice A h.length c)], .cells g1 3 [.val (.int .i64 0)], .cells g2 4 [.bf], .cells g3 25 [.val (.int .i64 0)]], g < W.heap.size := fun g hg => hW.fps_lt hg
 simp only [putF] at ov ⊢
 generalize fps [SO.cells g0 39 [.val (.slice A h.length c)], .cells g1 3 [.val (.int .i64 0)], .cells g2 4 [.bf], .cells g3 25 [.val (.int .i64 0)]] = st at hst ov ⊢
 rcases hr with ⟨hs, hv, hf⟩ | ⟨z, B, bc, hs, hv, hh⟩
 ·refine ⟨.tup [.val (.slice none 0 0), .val (.int .i64 120)], by rw [hv]; simp [Is, IsL], ?_⟩
  (refine Y_goM 600 ?_; dsimp only [Y_k, zq4u, zq8o, zq6n, Nat.reduceBEq, zq6k, YK, zq8t, zq5j, zq2f, nth, zq2e, zq6l, zq9i, normF, zq6m, zq86, zq87, zq8c, zq9y, t23n9, T23n9, zq9r, zq9q, zq50, zq8p, zq6q, zq04, zq92, zq9b, zq0i, zq9d, zq9s, zq6h, zq8x, YC, t23n0, T23n0, zq5d, zq7u, zq73, zq0a, zq1x, zq1t, dropL, takeL, zq1r, splice, setn, zq8s, zq6p, zq7w, zq7i, zq89, zq9x, zq9p, t23n8, T23n8, zq9j])
  refine ⟨fun _ => ?_, fun hb => absurd hb (by decide)⟩
  refine ret_rvn (vs := [.int .i64 0, .bool false, .int .i64 120]) r23 rfl rfl fun W hW => hR _ _ ⟨.inl ⟨hs, rfl⟩, (ov.heap hW).fresh'⟩
 have hz : SpE ⟨W', W'.heap.size, st, 43, []⟩ B z := spE_of hh hst 43 []
 have hAE : RowE ⟨W', W'.heap.size, st, 43, []⟩ A (cellsE h) := (rowE0 hA 43 []).over ov
 have hFE : RowE ⟨W', W'.heap.size, st, 43, []⟩ A' (first.map uV) := (rowE0 hF 43 []).over ov
 have hfin : ∀ W2, Fresh w W2 → R (judR h (z.map (·.1)) first) W2 := fun W2 hf => hR _ _ ⟨.inr ⟨_, hs, rfl⟩, hf⟩
 have hfr : ∀ {H : List SO} {W2 : World}, HeapOk ⟨W', W'.heap.size, st, 43, []⟩ H W2 → Fresh w W2 := fun hh => (ov.heap hh).fresh'
 have hzl : z.length ≤ 1000 := by
  unfold splitL at hs
  cases hq : sp h h.length with
  | none => rw [hq] at hs; cases hs
  | some s =>
   rw [hq] at hs; injection hs with hs
   have hs : s.out = z.map (·.1) := hs
   have h1 : z.length = s.out.length := by rw [hs, List.length_map]
   have h2 := (sp_ok hq).len
   omega
 have hlen : ∀ p ∈ z, p.1.loads.length ≤ 1000 ∧ p.1.stores.length ≤ 1000 := by
  unfold splitL at hs
  cases hq : sp h h.length with
  | none => rw [hq] at hs; cases hs
  | some s =>
   rw [hq] at hs; injection hs with hs
   have hs : s.out = z.map (·.1) := hs
   intro p hp
   have := sp_lens hq p.1 (by rw [hs]; exact List.mem_map_of_mem (f := fun p : At × Hd => p.1) hp)
   omega
 refine ⟨.tup [.val (.slice B z.length bc), .val (.int .i64 0)], by rw [hv]; simp [Is, IsL], ?_⟩
 clear hh hv hW hst hR
 (refine Y_goM 600 ?_; dsimp only [Y_k, zq4u, zq8o, zq6n, Nat.reduceBEq, zq6k, YK, zq8t, zq5j, zq2f, nth, zq2e, zq6l, zq9i, normF, zq6m, zq86, zq87, zq8c, zq9y, t23n9, T23n9, zq9r, zq9q, zq50, zq8p, zq6q, zq04, zq92, zq9b, zq0i, zq9d, zq9s, zq6h, zq8x, YC, t23n0, T23n0, zq5d, zq7u, zq73, zq0a, zq1x, zq1t, dropL, takeL, zq1r, splice, setn, zq8s, zq6p, zq7w, zq7i, zq89, zq9x, zq9p, t23n8, T23n8, zq9j])
 refine ⟨fun hb => absurd hb (by decide), fun _ => ?_⟩
 refine call_rule (vs := [.slice A' first.length c']) rfl (R := fun W v W' => ∃ g, v = .map (some g) ∧ HeapOk ⟨W, W.heap.size, [], 19, []⟩ [.map g (memV (begL first))] W') (fun W hW => begun61 A' c' first W (hFE.at hW) hfl) fun W v W2 hW ⟨gm, hv, hh⟩ => ?_
 refine ⟨.mp 4, [.cells g0 39 [.val (.slice A h.length c)], .cells g1 3 [.val (.int .i64 0)], .cells g2 4 [.bf], .cells g3 25 [.val (.int .i64 0)], .map gm (memV (begL first))], ?_, HExt.push _ _, ?_, ?_⟩
 ·rw [hv]; simp [Is, blk, nth]
 ·refine heapJoin (H2' := [.map gm (memV (begL first))]) hW hh rfl fun e he => ?_
  simp only [List.mem_singleton] at he
  subst he
  exact hh.ent (e := .map gm (memV (begL first))) (by simp)
 clear hh hv hW
 (refine Y_goM 600 ?_; dsimp only [zq8t, Y_k, zq5e, List.length_cons, List.length_nil, Nat.reduceAdd, List.map, zq6v, List.cons_append, List.nil_append, YK, zq5d, zq8o, zq6n, Nat.reduceBEq, zq6k, zq6l, zq83, zq7p, zq0a, zq1x, nth, zq1t, dropL, takeL, zq1r, splice, setn, zq8s, zq9i, normF, zq6m, zq86, zq8a, zq8c, zq87, zq9y, t23n7, T23n7, zq9r, zq9q, zq5c, zq1o, zq1k, zq19, zq18, zq4u, zq9j])
 intro g4
 refine call_rule (vs := [.slice A h.length c, .slice B z.length bc]) rfl (R := fun W v W' => ∃ gh gq gb, v = .func (.func 64) #[] #[.pointer (some ⟨gh, 0, none⟩), .pointer (some ⟨gb, 0, none⟩)] ∧ HeapOk ⟨W, W.heap.size, [], 30, []⟩ [.cells gh 39 [.val (.slice A h.length c)], .map gq (ptV z), .cells gb 111 [.mp 1]] W') (fun W hW => points62 A B c bc h.length z W (hz.1.at hW) (fun p hp => (hz.2 p hp).1.at hW) (by omega)) fun W v W2 hW ⟨gh, gq, gb, hv, hh⟩ => ?_
 refine ⟨.fn (.func 64) [] [.ptr 6 0, .ptr 8 0], [.cells g0 39 [.val (.slice A h.length c)], .cells g1 3 [.val (.int .i64 0)], .cells g2 4 [.bf], .cells g3 25 [.val (.int .i64 0)], .map gm (memV (begL first)), .cells g4 89 [.mp 4], .cells gh 39 [.val (.slice A h.length c)], .map gq (ptV z), .cells gb 111 [.mp 7]], ?_, ?_, ?_, ?_⟩
 ·rw [hv]; simp [Is, IsL, blk, nth]
 ·exact HExt.app [.cells g0 39 [.val (.slice A h.length c)], .cells g1 3 [.val (.int .i64 0)], .cells g2 4 [.bf], .cells g3 25 [.val (.int .i64 0)], .map gm (memV (begL first)), .cells g4 89 [.mp 4]] [.cells gh 39 [.val (.slice A h.length c)], .map gq (ptV z), .cells gb 111 [.mp 7]]
 ·refine heapJoin (H2' := [.cells gh 39 [.val (.slice A h.length c)], .map gq (ptV z), .cells gb 111 [.mp 7]]) hW hh rfl fun e he => ?_
  simp only [List.mem_cons, List.not_mem_nil, or_false] at he
  rcases he with rfl | rfl | rfl
  ·exact (hh.ent (e := .cells gh 39 [.val (.slice A h.length c)]) (by simp)).shut rfl
  ·exact hh.ent (e := .map gq (ptV z)) (by simp)
  ·obtain ⟨c, hc, hl⟩ := hh.ent (e := .cells gb 111 [.mp 1]) (by simp)
   refine ⟨c, hc, ?_⟩
   simp only [IsL, Is, blk, nth] at hl ⊢
   exact hl
 clear hh hv hW
 (refine Y_goM 600 ?_; dsimp only [zq8t, zq9i, normF, zq6n, Nat.reduceBEq, zq6l, zq6k, zq6m, zq86, zq8j, zq8a, zq8c, zq87, zq9y, t23n5, T23n5, zq9t, zq9w])
 have hzp : ∀ n p, ptZ z n = some p → p ∈ z := fun n p hp => by simpa using List.mem_of_find?_eq_some hp
 generalize hbad : badAt h (z.map (·.1)) (begL first) = bad at *
 refine rng_rule rfl rfl (gf := 64) (caps := [.pointer (some ⟨gh, 0, none⟩), .pointer (some ⟨gb, 0, none⟩)]) rfl rfl ?_
 intro D lo rec hrec R' hend hjump W1 hW1
 refine calls_in (keep := K64) (nt := 31) (E := ⟨W', W'.heap.size, st, 43, []⟩) (svs := [.val (.func (.yield lo) #[] #[]), .ptr 6 0, .ptr 8 0]) Try.func64 x64 n64 (by simp) hW1 (by simp [IsL, Is, blk, nth]) ?_
 (refine Y_go 600 ?_; dsimp only [X64, numF, Nat.reduceAdd, List.cons_append, List.nil_append, zq9r, zq9q, Y_k, zq5c, zq8o, zq6n, Nat.reduceBEq, zq6l, zq6k, zq1o, nth, zq1k, List.length_cons, List.length_nil, dropL, takeL, zq19, zq18, YK, zq8t, zq55, zq0r, zq4u, zq8p, zq6q, zq9i, normF, zq6m, zq86, zq87, zq8c, zq9t, zq9v])
 refine loop_go (α := Nat) (fun n => n ≤ h.length ∧ frst bad n = none) (fun _ => ⟨W', W'.heap.size, st, 31, []⟩)
  (fun n => { F := [(0, .val (.func (.yield lo) #[] #[])), (1, .ptr 6 0), (2, .ptr 8 0), (7, .val (.slice A h.length c)), (8, .val (.int .i64 h.length)), (9, .val (.int .i64 n))], H := [.cells g0 39 [.val (.slice A h.length c)], .cells g1 3 [.val (.int .i64 0)], .cells g2 4 [.bf], .cells g3 25 [.val (.int .i64 0)], .map gm (memV (memTo h (z.map (·.1)) (begL first) n)), .cells g4 89 [.mp 4], .cells gh 39 [.val (.slice A h.length c)], .map gq (ptV z), .cells gb 111 [.mp 7], .obj D (.deferred (some [])), .obj lo (.loop rec)] }) (fun n => h.length - n) (fun _ => rfl) ?start ?round
 case start =>
  intro a W rep
  exact ⟨0, ⟨Nat.zero_le _, rfl⟩, rep.le (by (simp only [setn, List.nil_append, List.cons_append, leF, leH_nil, leH_cons, leF_nil, lk, scp, scpL, scpO, resF, resH, resO, resV, resVL, nth, Nat.reduceBEq, Nat.reduceLT, decide_true, decide_false, List.length, List.length_cons, List.length_nil, Nat.reduceAdd, Bool.and_self, Bool.and_true, and_true, true_and, numF] <;> try simp)) (by (simp only [setn, List.nil_append, List.cons_append, leF, leH_nil, leH_cons, leF_nil, lk, scp, scpL, scpO, resF, resH, resO, resV, resVL, nth, Nat.reduceBEq, Nat.reduceLT, decide_true, decide_false, List.length, List.length_cons, List.length_nil, Nat.reduceAdd, Bool.and_self, Bool.and_true, and_true, true_and, numF] <;> try simp); rfl)⟩
 case round =>
  rintro n ⟨hn, hno⟩ I hI
  have hn : n ≤ h.length := hn
  have hno : frst bad n = none := hno
  (refine Y_go 600 ?_; dsimp only [zq9y, t64n4, T64n4, zq9r, zq9q, Y_k, zq50, zq8o, zq6n, Nat.reduceBEq, zq6l, zq6k, zq04, zq92, zq9b, zq0i, zq9e, YK, zq8t, zq9i, normF, zq6m, zq86, zq87, zq8c, t64n3, T64n3, zq9s, zq6h, zq8x, YC, zq9p, t64n2, T64n2, zq9t, zq4u, zq58, zq06, zq0w, zq5c, zq1p, zq1c, List.nil_append, List.cons_append, zq1b, zq17, zq5e, List.length_cons, List.length_nil, Nat.reduceAdd, List.map, zq6q, zq5d, zq7t, zq8l, zq73, zq8m, zq8k, zq0a, zq1x, nth, zq1t, dropL, takeL, zq1r, splice, setn, zq8s, zq89, t64n1, T64n1, zq1o, zq1k, zq19, zq18, zq61, zq4h, zq00, zq4g, zq4f, t64n0, T64n0, zq5t, zq9u, popTo, zq6i, YP, zqa3])
  refine ⟨fun h1 => ?_, fun h1 => ?_⟩
  rotate_left
  ·have hil : n = h.length := by have := of_decide_eq_false h1; omega
   subst hil
   refine end_rule (vs := []) r64 rfl rfl fun W hW => ?_
   refine hend _ _ W ?_ (extB_spec ?_) (HeapOk.env (E := ⟨W', W'.heap.size, st, 31, []⟩) (E' := ⟨W', W'.heap.size, st, 43, []⟩) rfl rfl rfl hW) ?_
   ·rfl
   ·simp [extB, SO.blk, bump]
   ·(refine Y_goM 600 ?_; dsimp only [List.length_cons, List.length_nil, Nat.reduceAdd, setn, zqa1, zq9y, t23n6, T23n6, zq9r, zq9q, Y_k, zq5d, zq8o, zq6n, Nat.reduceBEq, zq6l, zq6k, zq8p, zq6q, zq7u, zq73, zq0a, zq1x, nth, zq1t, dropL, takeL, zq1r, splice, YK, zq8s, zq6o, zq7v, zq7h, zq9i, normF, zq6m, zq86, zq8j, zq8a, zq8c, zq87, zq9x])
    refine ret_rvm (vs := [.int .i64 0, .bool true, .int .i64 0]) 9 r23 rfl rfl rfl fun W hW => ?_
    have := hfin W (hfr (HeapOk.env (E := ⟨W', W'.heap.size, st, 43, [D]⟩) (E' := ⟨W', W'.heap.size, st, 43, []⟩) rfl rfl rfl hW))
    unfold judR at this
    rw [hbad, hno] at this
    exact this
  have hlt : n < h.length := by have := of_decide_eq_true h1; omega
  have hA31 : RowE ⟨W', W'.heap.size, st, 31, []⟩ A (cellsE h) := hAE.env rfl rfl rfl
  have hz31 : SpE ⟨W', W'.heap.size, st, 31, []⟩ B z := hz.env rfl rfl rfl
  have cl : ∀ k v, (evA h n).cells[k]? = some v → CellAt ⟨W', W'.heap.size, st, 31, []⟩ A ((n : Int).toNat * 9 + k) v := fun k v hk => evCell hA31 hlt k v hk
  have cl43 : ∀ k v, (evA h n).cells[k]? = some v → CellAt ⟨W', W'.heap.size, st, 43, []⟩ A ((n : Int).toNat * 9 + k) v := fun k v hk => evCell hAE hlt k v hk
  have hsome : A.isSome = true := hA.isSome (j := n * 9) (by rw [cellsE_len]; omega)
  have hadd : ArOk .add .i64 (n : Int) 1 ((n + 1 : Nat) : Int) := ArOk.to (by omega) (by omega) (by omega)
  refine ⟨⟨by omega, by omega, hsome⟩, _, cl 0 _ rfl, _, cl 1 _ rfl, _, cl 2 _ rfl, _, cl 3 _ rfl, _, cl 4 _ rfl, _, cl 5 _ rfl, _, cl 6 _ rfl, _, cl 7 _ rfl, _, cl 8 _ rfl, fun ge => ?_⟩
  have hmem : hapB h (z.map (·.1)) n = true → memTo h (z.map (·.1)) (begL first) (n + 1) = goesM (memTo h (z.map (·.1)) (begL first) n) (evA h n) ((ptZ z n).map (·.1)) := fun hb => by
   simp only [memTo]
   rw [if_pos hb, ptZ_at]
  have hbadn : hapB h (z.map (·.1)) n = true → bad n = !explB (memTo h (z.map (·.1)) (begL first) n) (evA h n) ((ptZ z n).map (·.1)) := fun hb => by
   rw [← hbad]; unfold badAt
   rw [hb, ptZ_at, Bool.true_and]
  have yld : ∀ (xo : Option (At × Hd)) (sx : SV) (xv : Value) (ge : Nat), PtOk z xo sx xv → ptZ z n = xo → hapB h (z.map (·.1)) n = true →
    G (cxOf Try.prog Try.f64 K64 T64 R') ⟨W', W'.heap.size, st, 31, []⟩ [.ops [⟨some 27, none, .callv (.tmp 24) [.tmp 25, .tmp 26]⟩, ⟨some 28, some (23, true), .k (.not (.tmp 27))⟩, ⟨some 29, none, .k (.pick (.tmp 23) (.tmp 28) (.const (.bool false)))⟩], .code (.cond (.tmp 29) .ret .skip), .blk 1, .code (.ops [⟨some 30, none, .k (.arith .add .i64 (.tmp 9) (.const (.int .i64 1)))⟩, ⟨some 9, none, .k (.mov (.tmp 30))⟩]), .lend I, .blk 0]
     { F := [(26, sx), (25, .val (.int .i64 n)), (24, .val (.func (.yield lo) #[] #[])), (23, .bt), (0, .val (.func (.yield lo) #[] #[])), (1, .ptr 6 0), (2, .ptr 8 0), (7, .val (.slice A h.length c)), (8, .val (.int .i64 h.length)), (9, .val (.int .i64 n))], H := [.cells g0 39 [.val (.slice A h.length c)], .cells g1 3 [.val (.int .i64 0)], .cells g2 4 [.bf], .cells g3 25 [.val (.int .i64 0)], .map gm (memV (memTo h (z.map (·.1)) (begL first) n)), .cells g4 89 [.mp 4], .cells gh 39 [.val (.slice A h.length c)], .map gq (ptV z), .cells gb 111 [.mp 7], .obj D (.deferred (some [])), .obj lo (.loop rec), .cells ge 53 [.val (.int .i64 (evA h n).kind), .val (.int .i64 (evA h n).time), .val (.int .i64 (evA h n).core), .val (.int .i64 (evA h n).block), .val (.int .i64 (evA h n).tr), .val (.int .i64 (evA h n).lane), .val (.int .i64 (evA h n).addr), .val (.int .u64 (evA h n).value), .val (.int .i64 (evA h n).code)]] } := by
   intro xo sx xv ge hpt hxo hhap
   replace hmem := hmem hhap
   replace hbadn := hbadn hhap
   rw [hxo] at hmem hbadn
   have hpt2 := hpt
   obtain ⟨xo', hxo'⟩ : ∃ y, y = xo := ⟨_, rfl⟩
   rw [← hxo'] at hpt2 hmem hbadn
   obtain ⟨xv', hxv⟩ : ∃ y, y = xv := ⟨_, rfl⟩
   rw [← hxv] at hpt2
   rcases hpt with ⟨rfl, rfl, rfl⟩ | ⟨p, hp, rfl, rfl, rfl⟩
   all_goals
    refine yield_rule (C' := cxOf Try.prog Try.f64 K64 T64 R') (E := ⟨W', W'.heap.size, st, 43, []⟩) (i := 10) (rec := rec) (lno := lo) (keep := K23) ?_ ?_ ?_ hrec ?_ ?_ ?_ ?_ ?_ ?_
    ·rfl
    ·rfl
    ·rfl
    ·simp
    ·rfl
    ·rfl
    ·rfl
    ·exact extB_spec (by simp [extB, SO.blk, bump])
    intro J Q' hQ' hbeg hnorm hjmp
    have hF : NoPanic (fun _ _ _ => False) := fun _ _ _ h => h
    (refine Y_round hF 600 ?_; dsimp only [evL, zq8o, zq6n, Nat.reduceBEq, zq6l, zq6k, setPs, zq9y, t23n1, T23n1, zq9r, zq9q, Y_k, zq4u, YK, zq8t, zq9i, normF, zq6m, zq86, zq87, zq8j, zq8a, zq8c, zqa2, zq8d])
    refine lend_rule fun a W rep => hbeg _ _ rfl ?_ a W rep
    (refine Y_round hQ' 600 ?_; dsimp only [setn, zq9y, t23n4, T23n4, zq9t, zq9r, zq9q, Y_k, zq5c, zq8o, zq6n, Nat.reduceBEq, zq6l, zq6k, zq1o, nth, zq1k, List.length_cons, List.length_nil, Nat.reduceAdd, dropL, takeL, zq19, zq18, YK, zq8t, zq4u, zq58, zq06, zq0w, zq1p, zq1c, List.nil_append, List.cons_append, zq1b, zq17, zq9j])
    refine ⟨⟨by omega, by omega, hsome⟩, _, cl43 0 _ rfl, _, cl43 1 _ rfl, _, cl43 2 _ rfl, _, cl43 3 _ rfl, _, cl43 4 _ rfl, _, cl43 5 _ rfl, _, cl43 6 _ rfl, _, cl43 7 _ rfl, _, cl43 8 _ rfl, ?_⟩
    generalize hm : (memTo h (z.map (·.1)) (begL first) n) = m at hmem hbadn ⊢
    refine call_rule (vs := [.map (some gm), (evA h n).val, xv']) (by rw [hxv]; rfl) (R := fun _ v W2 => v = .bool (explB m (evA h n) (xo'.map (·.1))) ∧ HeapOk ⟨W', W'.heap.size, st, 43, []⟩ [.cells g0 39 [.val (.slice A h.length c)], .cells g1 3 [.val (.int .i64 0)], .cells g2 4 [.bf], .cells g3 25 [.val (.int .i64 0)], .map gm (memV m), .cells g4 89 [.mp 4], .cells gh 39 [.val (.slice A h.length c)], .map gq (ptV z), .cells gb 111 [.mp 7], .obj D (.deferred (some [])), .obj lo (.loop { rec with state := .busy }), .cells ge 53 [.val (.int .i64 (evA h n).kind), .val (.int .i64 (evA h n).time), .val (.int .i64 (evA h n).core), .val (.int .i64 (evA h n).block), .val (.int .i64 (evA h n).tr), .val (.int .i64 (evA h n).lane), .val (.int .i64 (evA h n).addr), .val (.int .u64 (evA h n).value), .val (.int .i64 (evA h n).code)]] W2) (fun W hW => hpt2.explains (E0 := ⟨W', W'.heap.size, st, 43, []⟩) hz (fun p hp => (hlen p hp).1) hW (i := 4) rfl (evA h n)) fun W v W2 hW hv => ⟨.val (.bool (explB m (evA h n) (xo'.map (·.1)))), _, by rw [hv.1]; simp [Is], HExt.refl _, hv.2, ?_⟩
    generalize explB m (evA h n) (xo'.map (·.1)) = ok at hbadn ⊢
    (refine Y_round hQ' 600 ?_; dsimp only [zq8t, Y_k, zq53, zq8o, zq6n, Nat.reduceBEq, zq6k, zq0o, YK, zq9i, normF, zq6l, zq87, zq8j, zq8a, zq8c, zq9s, zq6h, zq8x, YC, zq9y, t23n2, T23n2, zq9r, zq9q, zq4u, zq5d, zq7u, zq73, zq0a, zq1x, nth, zq1t, dropL, takeL, zq1r, splice, setn, zq8s, zq8p, zq6p, zq7w, zq7i, zq6q, zq89, zq9x, zq9p, t23n3, T23n3, zq5c, zq1o, zq1k, List.length_cons, List.length_nil, Nat.reduceAdd, zq19, zq18, zq58, zq06, zq0w, zq1p, zq1c, List.nil_append, List.cons_append, zq1b, zq17, zq9j, zq8d])
    refine ⟨fun hb => ?_, fun hb => ⟨⟨by omega, by omega, hsome⟩, _, cl43 0 _ rfl, _, cl43 1 _ rfl, _, cl43 2 _ rfl, _, cl43 3 _ rfl, _, cl43 4 _ rfl, _, cl43 5 _ rfl, _, cl43 6 _ rfl, _, cl43 7 _ rfl, _, cl43 8 _ rfl, ?_⟩⟩
    ·have leave : RetG (cxR Try.prog K23 T23 lo Q') ⟨W', W'.heap.size, st, 43, []⟩ { F := [], H := [.cells g0 39 [.val (.slice A h.length c)], .cells g1 3 [.val (.int .i64 n)], .cells g2 4 [.bf], .cells g3 25 [.val (.int .i64 0)], .map gm (memV m), .cells g4 89 [.mp 4], .cells gh 39 [.val (.slice A h.length c)], .map gq (ptV z), .cells gb 111 [.mp 7], .obj D (.deferred (some [])), .obj lo (.loop { rec with state := .busy }), .cells ge 53 [.val (.int .i64 (evA h n).kind), .val (.int .i64 (evA h n).time), .val (.int .i64 (evA h n).core), .val (.int .i64 (evA h n).block), .val (.int .i64 (evA h n).tr), .val (.int .i64 (evA h n).lane), .val (.int .i64 (evA h n).addr), .val (.int .u64 (evA h n).value), .val (.int .i64 (evA h n).code)]] } := by
      refine fun a W rep => hjmp .ret _ rfl (extB_spec (by simp [extB, SO.blk, bump])) ?_ [] a W rep
      (refine Y_go 600 ?_; dsimp only [zq8t, setn, Y_gk, zq6n, Nat.reduceBEq, zq6l, zq6k, zq69, YR, zq53, zq8o, zq0n, YK, Y_k, zq4v, zq8p, zq6p, zq0b, zq9i, normF, zq6m, zq89, zq86, zq87, zq8c, zq9s, zq6f, YC, zq9x])
      refine ret_rule (vs := []) r64 rfl rfl fun W hW => ?_
      refine hjump .ret _ _ W ?_ (extB_spec ?_) (HeapOk.env (E := ⟨W', W'.heap.size, st, 31, []⟩) (E' := ⟨W', W'.heap.size, st, 43, []⟩) rfl rfl rfl hW) ?_
      ·rfl
      ·simp [extB, SO.blk, bump]
      (refine Y_goM 600 ?_; dsimp only [List.length_cons, List.length_nil, Nat.reduceAdd, setn])
      refine ret_rvm (vs := [.int .i64 n, .bool false, .int .i64 0]) 9 r23 rfl rfl rfl fun W hW => ?_
      have := hfin W (hfr (HeapOk.env (E := ⟨W', W'.heap.size, st, 43, [D]⟩) (E' := ⟨W', W'.heap.size, st, 43, []⟩) rfl rfl rfl hW))
      unfold judR at this
      rw [hbad, frst_hit hno (by rw [hbadn]; exact hb) hlt] at this
      exact this
     exact fun a W rep => leave a W (rep.le (by (simp only [setn, List.nil_append, List.cons_append, leF, leH_nil, leH_cons, leF_nil, lk, scp, scpL, scpO, resF, resH, resO, resV, resVL, nth, Nat.reduceBEq, Nat.reduceLT, decide_true, decide_false, List.length, List.length_cons, List.length_nil, Nat.reduceAdd, Bool.and_self, Bool.and_true, and_true, true_and, numF] <;> try simp)) (by (simp only [setn, List.nil_append, List.cons_append, leF, leH_nil, leH_cons, leF_nil, lk, scp, scpL, scpO, resF, resH, resO, resV, resVL, nth, Nat.reduceBEq, Nat.reduceLT, decide_true, decide_false, List.length, List.length_cons, List.length_nil, Nat.reduceAdd, Bool.and_self, Bool.and_true, and_true, true_and, numF] <;> try simp)))
    ·refine call_rule (vs := [.map (some gm), (evA h n).val, xv']) (by rw [hxv]; rfl) (R := fun _ v W2 => v = .tuple #[] ∧ HExt [.cells g0 39 [.val (.slice A h.length c)], .cells g1 3 [.val (.int .i64 0)], .cells g2 4 [.bf], .cells g3 25 [.val (.int .i64 0)], .map gm (memV m), .cells g4 89 [.mp 4], .cells gh 39 [.val (.slice A h.length c)], .map gq (ptV z), .cells gb 111 [.mp 7], .obj D (.deferred (some [])), .obj lo (.loop { rec with state := .busy }), .cells ge 53 [.val (.int .i64 (evA h n).kind), .val (.int .i64 (evA h n).time), .val (.int .i64 (evA h n).core), .val (.int .i64 (evA h n).block), .val (.int .i64 (evA h n).tr), .val (.int .i64 (evA h n).lane), .val (.int .i64 (evA h n).addr), .val (.int .u64 (evA h n).value), .val (.int .i64 (evA h n).code)]] (setn [.cells g0 39 [.val (.slice A h.length c)], .cells g1 3 [.val (.int .i64 0)], .cells g2 4 [.bf], .cells g3 25 [.val (.int .i64 0)], .map gm (memV m), .cells g4 89 [.mp 4], .cells gh 39 [.val (.slice A h.length c)], .map gq (ptV z), .cells gb 111 [.mp 7], .obj D (.deferred (some [])), .obj lo (.loop { rec with state := .busy }), .cells ge 53 [.val (.int .i64 (evA h n).kind), .val (.int .i64 (evA h n).time), .val (.int .i64 (evA h n).core), .val (.int .i64 (evA h n).block), .val (.int .i64 (evA h n).tr), .val (.int .i64 (evA h n).lane), .val (.int .i64 (evA h n).addr), .val (.int .u64 (evA h n).value), .val (.int .i64 (evA h n).code)]] 4 (.map gm (memV (goesM m (evA h n) (xo'.map (·.1)))))) ∧ HeapOk ⟨W', W'.heap.size, st, 43, []⟩ (setn [.cells g0 39 [.val (.slice A h.length c)], .cells g1 3 [.val (.int .i64 0)], .cells g2 4 [.bf], .cells g3 25 [.val (.int .i64 0)], .map gm (memV m), .cells g4 89 [.mp 4], .cells gh 39 [.val (.slice A h.length c)], .map gq (ptV z), .cells gb 111 [.mp 7], .obj D (.deferred (some [])), .obj lo (.loop { rec with state := .busy }), .cells ge 53 [.val (.int .i64 (evA h n).kind), .val (.int .i64 (evA h n).time), .val (.int .i64 (evA h n).core), .val (.int .i64 (evA h n).block), .val (.int .i64 (evA h n).tr), .val (.int .i64 (evA h n).lane), .val (.int .i64 (evA h n).addr), .val (.int .u64 (evA h n).value), .val (.int .i64 (evA h n).code)]] 4 (.map gm (memV (goesM m (evA h n) (xo'.map (·.1)))))) W2) (fun W hW => hpt2.goes hz (fun p hp => (hlen p hp).2) hW (i := 4) rfl (evA h n)) fun W v W2 hW hv => ⟨.tup [], _, by rw [hv.1]; simp [Is, IsL], hv.2.1, hv.2.2, ?_⟩
     rw [← hmem]
     (refine Y_round hQ' 600 ?_; dsimp only [zq8t, setn, zq9i, normF, zq6n, Nat.reduceBEq, zq6l, zq6k, zq8a, zq87, zq8j, zq8c, zqa1, zqa3, zq8d])
     refine stop_rule fun a W rep => hnorm _ rfl (extB_spec (by simp [extB, SO.blk, bump])) ?_ _ a W rep
     (refine Y_go 600 ?_; dsimp only [zq8t, setn, Y_gk, zq6n, Nat.reduceBEq, zq6l, zq6k, zq69, YR, zq53, zq8o, zq0m, YK, Y_k, zq4v, zq8p, zq6p, zq0b, zq9i, normF, zq6m, zq8a, zq86, zq87, zq8c, zq9s, zq6g, YC, zq9p, zqa1, zq9q, zq4w, zq6q, zq04, zq92, zq9b, zq0e, zq4u, zqa2])
     refine ⟨_, hadd, lend_rule fun a W rep => hI (n + 1) ⟨hlt, frst_miss hno ?_⟩ (by show h.length - (n + 1) < h.length - n; omega) a W (rep.le (by (simp only [setn, List.nil_append, List.cons_append, leF, leH_nil, leH_cons, leF_nil, lk, scp, scpL, scpO, resF, resH, resO, resV, resVL, nth, Nat.reduceBEq, Nat.reduceLT, decide_true, decide_false, List.length, List.length_cons, List.length_nil, Nat.reduceAdd, Bool.and_self, Bool.and_true, and_true, true_and, numF] <;> try simp)) (by (simp only [setn, List.nil_append, List.cons_append, leF, leH_nil, leH_cons, leF_nil, lk, scp, scpL, scpO, resF, resH, resO, resV, resVL, nth, Nat.reduceBEq, Nat.reduceLT, decide_true, decide_false, List.length, List.length_cons, List.length_nil, Nat.reduceAdd, Bool.and_self, Bool.and_true, and_true, true_and, numF] <;> try simp)))⟩
     rw [hbadn]
     exact hb
  cases hx : ptZ z n with
  | none =>
   refine ⟨ptV_keys z, _, rfl, .val (.pointer none), by rw [mget_pt]; unfold ptZ at hx; rw [hx]; rfl, ?_⟩
   dsimp only [zq87, zq6n, Nat.reduceBEq, zq6k, zq3u, zq3p, YK, zq8t, Y_k, zq4u, zq8o, Y_gk, zq6e, YS, zq9l, zq6l, zq6a, zq4v, zq8p, zq6o, zq0b, zq69, YR, zq9o, YG, zq5c, zq1o, nth, zq1k, List.length_cons, List.length_nil, Nat.reduceAdd, dropL, takeL, zq19, zq17, zq6c]
   refine ⟨fun hb => absurd hb (by simp), fun _ => ?_⟩
   have hat : ptAt (z.map (·.1)) n = none := by rw [ptZ_at, hx]; rfl
   refine call_val (R := fun v => v = .bool (plainB (evA h n))) (vs := [(evA h n).val]) rfl (fun W hW => plain55 _ W) fun v hv => ⟨bsv (plainB (evA h n)), by rw [hv]; cases plainB (evA h n) <;> simp [Is, bsv], ?_⟩
   cases hpl : plainB (evA h n) with
   | false =>
    simp only [bsv]
    (refine Y_go 600 ?_; dsimp only [zq8t, Y_k, zq4v, zq8p, zq6o, zq8o, zq6n, Nat.reduceBEq, zq6k, zq6l, zq0c, YK, zq4u, Y_gk, zq6b, YS, zq9o, zq6p, zq9i, normF, zq8a, zq89, zq87, zq8c, zq9s, zq6g, YC, zq9p, zqa1, zq9q, zq4w, zq6q, zq04, zq92, zq9b, zq0e, zqa2])
    have hhap : hapB h (z.map (·.1)) n = false := by unfold hapB; rw [hat, hpl]; rfl
    have hmem2 : memTo h (z.map (·.1)) (begL first) (n + 1) = memTo h (z.map (·.1)) (begL first) n := by
     simp only [memTo]
     rw [if_neg (by rw [hhap]; simp)]
    have hbad2 : bad n = false := by rw [← hbad]; unfold badAt; rw [hhap]; rfl
    refine ⟨_, hadd, lend_rule fun a W rep => hI (n + 1) ⟨hlt, frst_miss hno hbad2⟩ (by show h.length - (n + 1) < h.length - n; omega) a W (rep.le (by (simp only [setn, List.nil_append, List.cons_append, leF, leH_nil, leH_cons, leF_nil, lk, scp, scpL, scpO, resF, resH, resO, resV, resVL, nth, Nat.reduceBEq, Nat.reduceLT, decide_true, decide_false, List.length, List.length_cons, List.length_nil, Nat.reduceAdd, Bool.and_self, Bool.and_true, and_true, true_and, numF] <;> try simp)) (by rw [hmem2]; (simp only [setn, List.nil_append, List.cons_append, leF, leH_nil, leH_cons, leF_nil, lk, scp, scpL, scpO, resF, resH, resO, resV, resVL, nth, Nat.reduceBEq, Nat.reduceLT, decide_true, decide_false, List.length, List.length_cons, List.length_nil, Nat.reduceAdd, Bool.and_self, Bool.and_true, and_true, true_and, numF] <;> try simp)))⟩
   | true =>
    simp only [bsv]
    (refine Y_go 600 ?_; dsimp only [zq8t, Y_k, zq4v, zq8p, zq6o, zq8o, zq6n, Nat.reduceBEq, zq6k, zq6l, zq0c, YK, zq4u, Y_gk, zq69, YR, zq9o, YG])
    have hhap : hapB h (z.map (·.1)) n = true := by unfold hapB; rw [hat, hpl]; rfl
    exact fun a W rep => yld none _ _ ge (.inl ⟨rfl, rfl, rfl⟩) hx hhap a W (rep.le (by (simp only [setn, List.nil_append, List.cons_append, leF, leH_nil, leH_cons, leF_nil, lk, scp, scpL, scpO, resF, resH, resO, resV, resVL, nth, Nat.reduceBEq, Nat.reduceLT, decide_true, decide_false, List.length, List.length_cons, List.length_nil, Nat.reduceAdd, Bool.and_self, Bool.and_true, and_true, true_and, numF] <;> try simp)) (by (simp only [setn, List.nil_append, List.cons_append, leF, leH_nil, leH_cons, leF_nil, lk, scp, scpL, scpO, resF, resH, resO, resV, resVL, nth, Nat.reduceBEq, Nat.reduceLT, decide_true, decide_false, List.length, List.length_cons, List.length_nil, Nat.reduceAdd, Bool.and_self, Bool.and_true, and_true, true_and, numF] <;> try simp)))
  | some p =>
   refine ⟨ptV_keys z, _, rfl, .adr (some ⟨p.2.g, 0, none⟩) 0, by rw [mget_pt]; unfold ptZ at hx; rw [hx]; rfl, ?_⟩
   dsimp only [zq8d, zq6n, Nat.reduceBEq, zq6k, zq3t, zq3p, YK, zq8t, Y_k, zq4u, zq8o, Y_gk, zq6e, YS, zq9l, zq6l, zq6a, zq4v, zq8p, zq6o, zq0b, zq69, YR, zq9o, YG, zq5c, zq1o, nth, zq1k, List.length_cons, List.length_nil, Nat.reduceAdd, dropL, takeL, zq19, zq17, zq6c]
   refine ⟨fun _ => ?_, fun hb => absurd hb (by simp)⟩
   have hhap : hapB h (z.map (·.1)) n = true := by unfold hapB; rw [ptZ_at, hx]; rfl
   exact fun a W rep => yld (some p) _ _ ge (.inr ⟨p, hzp n p hx, rfl, rfl, rfl⟩) hx hhap a W (rep.le (by (simp only [setn, List.nil_append, List.cons_append, leF, leH_nil, leH_cons, leF_nil, lk, scp, scpL, scpO, resF, resH, resO, resV, resVL, nth, Nat.reduceBEq, Nat.reduceLT, decide_true, decide_false, List.length, List.length_cons, List.length_nil, Nat.reduceAdd, Bool.and_self, Bool.and_true, and_true, true_and, numF] <;> try simp)) (by (simp only [setn, List.nil_append, List.cons_append, leF, leH_nil, leH_cons, leF_nil, lk, scp, scpL, scpO, resF, resH, resO, resV, resVL, nth, Nat.reduceBEq, Nat.reduceLT, decide_true, decide_false, List.length, List.length_cons, List.length_nil, Nat.reduceAdd, Bool.and_self, Bool.and_true, and_true, true_and, numF] <;> try simp)))
end Go.Proofs.Ytbkpiljencaoeaa
