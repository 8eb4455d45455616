/- hist.Final. -/
import Derived.Test.YtnedgfkgmdoahaaHsJ6
import Derived.Test.YtnedgfkgmdoahaaHsCodeJ
set_option linter.unusedSimpArgs false
set_option linter.unusedVariables false
set_option linter.unnecessarySimpa false
namespace Go.Proofs.Ytnedgfkgmdoahaa
open Go Go.Sx Go.Hs
set_option maxRecDepth 100000
def finL (h : List Ev) (l : List At) (first : List Int) (n : Nat) : List Int := (List.range n).map fun a : Nat => memF (memTo h l (begL first) h.length) (a : Nat)
def fillL (f : Nat → Int) (N a : Nat) : List Value := (List.range N).map fun j => uV (if j < a then f j else 0)
theorem fill_zero (f : Nat → Int) (N : Nat) : fillL f N 0 = repN N [.int .u64 0] := by
 unfold fillL
 simp only [Nat.not_lt_zero, if_false]
 induction N with
 | zero => rfl
 | succ N ih =>
  rw [List.range_succ_eq_map, List.map_cons, List.map_map]
  show uV 0 :: _ = _ :: repN N _
  rw [← ih]
  rfl
theorem fill_end (f : Nat → Int) (N : Nat) : fillL f N N = ((List.range N).map f).map uV := by
 unfold fillL
 rw [List.map_map]
 refine List.map_congr_left fun j hj => ?_
 rw [if_pos (List.mem_range.1 hj)]
 rfl
theorem fill_set (f : Nat → Int) {N a : Nat} (h : a < N) : (fillL f N a).set a (uV (f a)) = fillL f N (a + 1) := by
 unfold fillL
 apply List.ext_getElem?
 intro j
 rw [List.getElem?_set]
 by_cases e : a = j
 ·subst e
  rw [if_pos rfl]
  simp [h]
 ·rw [if_neg e, List.getElem?_map, List.getElem?_map]
  by_cases hj : j < N
  ·rw [List.getElem?_range hj]
   simp only [Option.map_some]
   congr 1
   congr 1
   by_cases h1 : j < a
   ·rw [if_pos h1, if_pos (by omega)]
   ·rw [if_neg h1, if_neg (by omega)]
  ·rw [List.getElem?_eq_none (by simpa using hj)]; rfl
theorem final41 (A A' : Option Addr) (c c' : Nat) (h : List Ev) (first : List Int) (ws : Int) (w : World) (hA : RowAt w A (cellsE h)) (hF : RowAt w A' (first.map uV)) (hl : h.length ≤ 1000) (hfl : first.length ≤ 100000) :
  CallsV Try.prog 41 [.slice A h.length c, .slice A' first.length c', .int .i64 ws] w fun v w' => (((splitL h = none ∨ ws < 0 ∨ ws > 512) ∧ v = .tuple #[.slice none 0 0, .int .i64 120]) ∨ (¬ ws < 0 ∧ ¬ ws > 512 ∧ ∃ l S sc, splitL h = some l ∧ v = .tuple #[.slice S ws.toNat sc, .int .i64 0] ∧ World.ownsB w' w.heap.size 63 1 (.slice S ws.toNat sc) ws.toNat ((finL h l first ws.toNat).map uV))) ∧ Fresh w w' := by
 refine calls_goM (keep := K41) (nt := 59) (svs := [.val (.slice A h.length c), .val (.slice A' first.length c'), .val (.int .i64 ws)]) Try.func41 x41 n41 (by simp) (by simp [IsL, Is]) fun R hR => ?_
 (refine Y_goM 600 ?_; dsimp only [X41, numF, Nat.reduceAdd, zq9r, zq9q, Y_k, zq5f, zq8o, zq6n, Nat.reduceBEq, zq6k, zq7u, zq77, zq0a, zq1z, List.length_nil, List.nil_append, YK, zq8t, zq4u, zq8p, zq6u, zq6q, zq9i, normF, zq6l, zq6m, zq86, zq87, zq8c, zq9y, t41n14, T41n14, zq5c, zq1o, nth, zq1k, List.length_cons, dropL, takeL, zq19, zq18, zq9j])
 intro g0
 refine call_base (vs := [.slice A h.length c]) rfl (R := fun W v w' => (splitL h = none ∧ v = .tuple #[.slice none 0 0, .int .i64 120] ∧ Fresh W w') ∨
   (∃ (z : List (At × Hd)) (B : Option Addr) (bc : Nat), splitL h = some (z.map (·.1)) ∧ v = .tuple #[.slice B z.length bc, .int .i64 0] ∧ HeapOk ⟨W, W.heap.size, [], 67, []⟩ ([.own 122 0 1 B z.length bc (ptrs z)] ++ famQ 124 92 z) w')) (fun W hW => split54 A c h W (hA.keep hW.fresh') hl) (fun _ _ _ hr => by
    rcases hr with ⟨_, _, hf⟩ | ⟨_, _, _, _, _, hh⟩
    ·exact hf
    ·exact hh.fresh') fun W v W' hW hr ov => ?_
 have hst : ∀ g ∈ fps [SO.cells g0 62 [.val (.slice A h.length c)]], g < W.heap.size := fun g hg => hW.fps_lt hg
 simp only [putF] at ov ⊢
 generalize fps [SO.cells g0 62 [.val (.slice A h.length c)]] = st at hst ov ⊢
 rcases hr with ⟨hs, hv, hf⟩ | ⟨z, B, bc, hs, hv, hh⟩
 ·refine ⟨.tup [.val (.slice none 0 0), .val (.int .i64 120)], by rw [hv]; simp [Is, IsL], ?_⟩
  (refine Y_goM 600 ?_; dsimp only [Y_k, zq4u, zq8o, zq6n, Nat.reduceBEq, zq6k, YK, zq8t, zq5j, zq2f, nth, zq2e, zq6l, zq9i, normF, zq6m, zq86, zq87, zq8c, zq9y, t41n13, T41n13, zq9r, zq9q, zq50, zq8p, zq6q, zq04, zq92, zq9b, zq0i, zq9d, Y_gk, zq6e, YS, zq6a, zq4v, zq6o, zq0b, zq89, zq9s, zq6f, YC, t41n0, T41n0, zq6u, zq9x, YR, zq6c, zq9e, zq0c, zq9g, zq6h, zq8x, zq9p, t41n12, T41n12, zq9j])
  refine ⟨fun _ => ?_, fun hb => absurd hb (by decide)⟩
  refine ret_none (vs := [.slice none 0 0, .int .i64 120]) r41 rfl rfl fun W hW => hR _ _ ⟨.inl ⟨.inl hs, rfl⟩, (ov.heap hW).fresh'⟩
 have hz : SpE ⟨W', W'.heap.size, st, 59, []⟩ B z := spE_of hh hst 59 []
 have hAE : RowE ⟨W', W'.heap.size, st, 59, []⟩ A (cellsE h) := (rowE0 hA 59 []).over ov
 have hFE : RowE ⟨W', W'.heap.size, st, 59, []⟩ A' (first.map uV) := (rowE0 hF 59 []).over ov
 have hbadR : (ws < 0 ∨ ws > 512) → ∀ W2, Fresh w W2 → R (.tuple #[.slice none 0 0, .int .i64 120]) W2 := fun hw W2 hf => hR _ _ ⟨.inl ⟨.inr hw, rfl⟩, hf⟩
 have hfin : ¬ ws < 0 → ¬ ws > 512 → ∀ S sc W2, Fresh w W2 → World.ownsB W2 w.heap.size 63 1 (.slice S ws.toNat sc) ws.toNat ((finL h (z.map (·.1)) first ws.toNat).map uV) → R (.tuple #[.slice S ws.toNat sc, .int .i64 0]) W2 := fun h1 h2 S sc W2 hf ho => hR _ _ ⟨.inr ⟨h1, h2, _, S, sc, hs, rfl, ho⟩, hf⟩
 have hfr : ∀ {H : List SO} {W2 : World}, HeapOk ⟨W', W'.heap.size, st, 59, []⟩ H W2 → Fresh w W2 := fun hh => (ov.heap hh).fresh'
 have hzl : z.length ≤ 1000 := by
  unfold splitL at hs
  cases hq : sp h h.length with
  | none => rw [hq] at hs; cases hs
  | some s =>
   rw [hq] at hs; injection hs with hs
   have hs : s.out = z.map (·.1) := hs
   have h1 : z.length = s.out.length := by rw [hs, List.length_map]
   have h2 := (sp_ok hq).len
   omega
 have hlen : ∀ p ∈ z, p.1.loads.length ≤ 1000 ∧ p.1.stores.length ≤ 1000 := by
  unfold splitL at hs
  cases hq : sp h h.length with
  | none => rw [hq] at hs; cases hs
  | some s =>
   rw [hq] at hs; injection hs with hs
   have hs : s.out = z.map (·.1) := hs
   intro p hp
   have := sp_lens hq p.1 (by rw [hs]; exact List.mem_map_of_mem (f := fun p : At × Hd => p.1) hp)
   omega
 refine ⟨.tup [.val (.slice B z.length bc), .val (.int .i64 0)], by rw [hv]; simp [Is, IsL], ?_⟩
 clear hh hv hW hst hR
 (refine Y_goM 600 ?_; dsimp only [Y_k, zq4u, zq8o, zq6n, Nat.reduceBEq, zq6k, YK, zq8t, zq5j, zq2f, nth, zq2e, zq6l, zq9i, normF, zq6m, zq86, zq87, zq8c, zq9y, t41n13, T41n13, zq9r, zq9q, zq50, zq8p, zq6q, zq04, zq92, zq9b, zq0i, zq9d, Y_gk, zq6e, YS, zq6a, zq4v, zq6o, zq0b, zq89, zq9s, zq6f, YC, t41n0, T41n0, zq6u, zq9x, YR, zq6c, zq9e, zq0c, zq9g, zq6h, zq8x, zq9p, t41n12, T41n12, zq9j])
 refine ⟨fun hb => absurd hb (by decide), fun _ => ⟨fun hw => ?_, fun hw => ⟨fun hw2 => ?_, fun hw2 => ?_⟩⟩⟩
 ·exact ret_none (vs := [.slice none 0 0, .int .i64 120]) r41 rfl rfl fun W hW => hbadR (.inl (of_decide_eq_true hw)) W (hfr hW)
 ·exact ret_none (vs := [.slice none 0 0, .int .i64 120]) r41 rfl rfl fun W hW => hbadR (.inr (of_decide_eq_true hw2)) W (hfr hW)
 have hw := of_decide_eq_false hw
 have hw2 := of_decide_eq_false hw2
 replace hfin := hfin hw hw2
 refine call_rule (vs := [.slice A' first.length c']) rfl (R := fun W v W' => ∃ g, v = .map (some g) ∧ HeapOk ⟨W, W.heap.size, [], 19, []⟩ [.map g (memV (begL first))] W') (fun W hW => begun61 A' c' first W (hFE.at hW) hfl) fun W v W2 hW ⟨gm, hv, hh⟩ => ?_
 refine ⟨.mp 1, [.cells g0 62 [.val (.slice A h.length c)], .map gm (memV (begL first))], ?_, HExt.push _ _, ?_, ?_⟩
 ·rw [hv]; simp [Is, blk, nth]
 ·refine heapJoin (H2' := [.map gm (memV (begL first))]) hW hh rfl fun e he => ?_
  simp only [List.mem_singleton] at he
  subst he
  exact hh.ent (e := .map gm (memV (begL first))) (by simp)
 clear hh hv hW
 (refine Y_goM 600 ?_; dsimp only [zq8t, Y_k, zq5e, List.length_cons, List.length_nil, Nat.reduceAdd, List.map, zq6v, List.cons_append, List.nil_append, YK, zq5d, zq8o, zq6n, Nat.reduceBEq, zq6k, zq6l, zq83, zq7p, zq0a, zq1x, nth, zq1t, dropL, takeL, zq1r, splice, setn, zq8s, zq9i, normF, zq6m, zq86, zq8a, zq8c, zq87, zq9y, t41n11, T41n11, zq9r, zq9q, zq5c, zq1o, zq1k, zq19, zq18, zq4u, zq9j])
 intro g4
 refine call_rule (vs := [.slice A h.length c, .slice B z.length bc]) rfl (R := fun W v W' => ∃ gh gq gb, v = .func (.func 73) #[] #[.pointer (some ⟨gh, 0, none⟩), .pointer (some ⟨gb, 0, none⟩)] ∧ HeapOk ⟨W, W.heap.size, [], 30, []⟩ [.cells gh 62 [.val (.slice A h.length c)], .map gq (ptV z), .cells gb 148 [.mp 1]] W') (fun W hW => points62 A B c bc h.length z W (hz.1.at hW) (fun p hp => (hz.2 p hp).1.at hW) (by omega)) fun W v W2 hW ⟨gh, gq, gb, hv, hh⟩ => ?_
 refine ⟨.fn (.func 73) [] [.ptr 3 0, .ptr 5 0], [.cells g0 62 [.val (.slice A h.length c)], .map gm (memV (begL first)), .cells g4 132 [.mp 1], .cells gh 62 [.val (.slice A h.length c)], .map gq (ptV z), .cells gb 148 [.mp 4]], ?_, ?_, ?_, ?_⟩
 ·rw [hv]; simp [Is, IsL, blk, nth]
 ·exact HExt.app [.cells g0 62 [.val (.slice A h.length c)], .map gm (memV (begL first)), .cells g4 132 [.mp 1]] [.cells gh 62 [.val (.slice A h.length c)], .map gq (ptV z), .cells gb 148 [.mp 4]]
 ·refine heapJoin (H2' := [.cells gh 62 [.val (.slice A h.length c)], .map gq (ptV z), .cells gb 148 [.mp 4]]) hW hh rfl fun e he => ?_
  simp only [List.mem_cons, List.not_mem_nil, or_false] at he
  rcases he with rfl | rfl | rfl
  ·exact (hh.ent (e := .cells gh 62 [.val (.slice A h.length c)]) (by simp)).shut rfl
  ·exact hh.ent (e := .map gq (ptV z)) (by simp)
  ·obtain ⟨c, hc, hl⟩ := hh.ent (e := .cells gb 148 [.mp 1]) (by simp)
   refine ⟨c, hc, ?_⟩
   simp only [IsL, Is, blk, nth] at hl ⊢
   exact hl
 clear hh hv hW
 (refine Y_goM 600 ?_; dsimp only [zq8t, zq9i, normF, zq6n, Nat.reduceBEq, zq6l, zq6k, zq6m, zq86, zq8j, zq8a, zq8c, zq87, zq9y, t41n3, T41n3, zq9t, zq9w])
 have hzp : ∀ n p, ptZ z n = some p → p ∈ z := fun n p hp => by simpa using List.mem_of_find?_eq_some hp
 refine rng_rule rfl rfl (gf := 73) (caps := [.pointer (some ⟨gh, 0, none⟩), .pointer (some ⟨gb, 0, none⟩)]) rfl rfl ?_
 intro D lo rec hrec R' hend hjump W1 hW1
 refine calls_in (keep := K73) (nt := 31) (E := ⟨W', W'.heap.size, st, 59, []⟩) (svs := [.val (.func (.yield lo) #[] #[]), .ptr 3 0, .ptr 5 0]) Try.func73 x73 n73 (by simp) hW1 (by simp [IsL, Is, blk, nth]) ?_
 (refine Y_go 600 ?_; dsimp only [X73, numF, Nat.reduceAdd, List.cons_append, List.nil_append, zq9r, zq9q, Y_k, zq5c, zq8o, zq6n, Nat.reduceBEq, zq6l, zq6k, zq1o, nth, zq1k, List.length_cons, List.length_nil, dropL, takeL, zq19, zq18, YK, zq8t, zq55, zq0r, zq4u, zq8p, zq6q, zq9i, normF, zq6m, zq86, zq87, zq8c, zq9t, zq9v])
 refine loop_go (α := Nat) (fun n => n ≤ h.length) (fun _ => ⟨W', W'.heap.size, st, 31, []⟩)
  (fun n => { F := [(0, .val (.func (.yield lo) #[] #[])), (1, .ptr 3 0), (2, .ptr 5 0), (7, .val (.slice A h.length c)), (8, .val (.int .i64 h.length)), (9, .val (.int .i64 n))], H := [.cells g0 62 [.val (.slice A h.length c)], .map gm (memV (memTo h (z.map (·.1)) (begL first) n)), .cells g4 132 [.mp 1], .cells gh 62 [.val (.slice A h.length c)], .map gq (ptV z), .cells gb 148 [.mp 4], .obj D (.deferred (some [])), .obj lo (.loop rec)] }) (fun n => h.length - n) (fun _ => rfl) ?start ?round
 case start =>
  intro a W rep
  exact ⟨0, Nat.zero_le _, rep.le (by (simp only [setn, List.nil_append, List.cons_append, leF, leH_nil, leH_cons, leF_nil, lk, scp, scpL, scpO, resF, resH, resO, resV, resVL, nth, Nat.reduceBEq, Nat.reduceLT, decide_true, decide_false, List.length, List.length_cons, List.length_nil, Nat.reduceAdd, Bool.and_self, Bool.and_true, and_true, true_and, numF] <;> try simp)) (by (simp only [setn, List.nil_append, List.cons_append, leF, leH_nil, leH_cons, leF_nil, lk, scp, scpL, scpO, resF, resH, resO, resV, resVL, nth, Nat.reduceBEq, Nat.reduceLT, decide_true, decide_false, List.length, List.length_cons, List.length_nil, Nat.reduceAdd, Bool.and_self, Bool.and_true, and_true, true_and, numF] <;> try simp); rfl)⟩
 case round =>
  intro n hn I hI
  have hn : n ≤ h.length := hn
  (refine Y_go 600 ?_; dsimp only [zq9y, t73n4, T73n4, zq9r, zq9q, Y_k, zq50, zq8o, zq6n, Nat.reduceBEq, zq6l, zq6k, zq04, zq92, zq9b, zq0i, zq9e, YK, zq8t, zq9i, normF, zq6m, zq86, zq87, zq8c, t73n3, T73n3, zq9s, zq6h, zq8x, YC, zq9p, t73n2, T73n2, zq9t, zq4u, zq58, zq06, zq0w, zq5c, zq1p, zq1c, List.nil_append, List.cons_append, zq1b, zq17, zq5e, List.length_cons, List.length_nil, Nat.reduceAdd, List.map, zq6q, zq5d, zq7t, zq8l, zq73, zq8m, zq8k, zq0a, zq1x, nth, zq1t, dropL, takeL, zq1r, splice, setn, zq8s, zq89, t73n1, T73n1, zq1o, zq1k, zq19, zq18, zq61, zq4h, zq00, zq4g, zq4f, t73n0, T73n0, zq5t, zq9u, popTo, zq6i, YP, zqa3])
  refine ⟨fun h1 => ?_, fun h1 => ?_⟩
  rotate_left
  ·have hil : n = h.length := by have := of_decide_eq_false h1; omega
   subst hil
   refine end_rule (vs := []) r73 rfl rfl fun W hW => ?_
   refine hend _ _ W ?_ (extB_spec ?_) (HeapOk.env (E := ⟨W', W'.heap.size, st, 31, []⟩) (E' := ⟨W', W'.heap.size, st, 59, []⟩) rfl rfl rfl hW) ?_
   ·rfl
   ·simp [extB, SO.blk, bump]
   ·(refine Y_goM 600 ?_; dsimp only [List.length_cons, List.length_nil, Nat.reduceAdd, setn, zqa1, zq9y, t41n10, T41n10, zq9r, zq9q, Y_k, zq4u, zq8o, zq6n, Nat.reduceBEq, zq6l, zq6k, YK, zq8t, zq67, zq06, zq4t, List.cons_append, List.nil_append, zq9i, normF, zq6m, zq86, zq8j, zq8a, zq8f, zq8c, zq87, t41n9, T41n9, zq55, zq0t, nth, zq09, zq08, zq0q, zq8p, zq6q, zq9t, zq9v])
    refine ⟨⟨by omega, by omega, by omega, by omega⟩, fun go => ?_⟩
    have hwn : ((ws.toNat : Nat) : Int) = ws := by omega
    generalize hN : ws.toNat = N at *
    generalize hff : (fun a : Nat => memF (memTo h (z.map (·.1)) (begL first) h.length) (a : Int)) = ff
    refine loop_go (α := Nat) (fun a => a ≤ N) (fun _ => ⟨W', W'.heap.size, st, 59, [D]⟩)
     (fun a => { F := [(3, .ptr 0 0), (10, .ptr 2 0), (7, .val (.int .i64 0)), (13, .own 8 0), (47, .val (.int .i64 N)), (48, .val (.int .i64 a))], H := [.cells g0 62 [.val (.slice A h.length c)], .map gm (memV (memTo h (z.map (·.1)) (begL first) h.length)), .cells g4 132 [.mp 1], .cells gh 62 [.val (.slice A h.length c)], .map gq (ptV z), .cells gb 148 [.mp 4], .obj D (.deferred (some [])), .obj lo (.loop { rec with state := .exhausted }), .own 63 0 1 (some ⟨go, 0, none⟩) N N (fillL ff N a)] }) (fun a => N - a) (fun _ => rfl) ?start2 ?round2
    case start2 =>
     intro a W rep
     exact ⟨0, Nat.zero_le _, rep.le (by (simp only [setn, List.nil_append, List.cons_append, leF, leH_nil, leH_cons, leF_nil, lk, scp, scpL, scpO, resF, resH, resO, resV, resVL, nth, Nat.reduceBEq, Nat.reduceLT, decide_true, decide_false, List.length, List.length_cons, List.length_nil, Nat.reduceAdd, Bool.and_self, Bool.and_true, and_true, true_and, numF] <;> try simp)) (by (simp only [setn, List.nil_append, List.cons_append, leF, leH_nil, leH_cons, leF_nil, lk, scp, scpL, scpO, resF, resH, resO, resV, resVL, nth, Nat.reduceBEq, Nat.reduceLT, decide_true, decide_false, List.length, List.length_cons, List.length_nil, Nat.reduceAdd, Bool.and_self, Bool.and_true, and_true, true_and, numF] <;> try simp); rw [fill_zero])⟩
    case round2 =>
     intro a ha I2 again
     have ha : a ≤ N := ha
     (refine Y_goM 600 ?_; dsimp only [zq9y, t41n7, T41n7, zq9r, zq9q, Y_k, zq50, zq8o, zq6n, Nat.reduceBEq, zq6l, zq6k, zq04, zq92, zq9b, zq0i, zq9e, YK, zq8t, zq9i, normF, zq6m, zq87, zq86, zq8f, zq8c, t41n6, T41n6, zq9s, zq6h, zq8x, YC, zq9p, t41n5, T41n5, zq9t, zq4u, zq89, t41n4, T41n4, zq5c, zq1o, nth, zq1k, List.length_cons, List.length_nil, Nat.reduceAdd, dropL, takeL, zq19, zq18, zq61, zq4h, zq00, zq4g, zq4f, zq58, zq06, zq0y, zq09, zq08, zq0v, zq5d, zq9u, popTo, zq6i, YP, t41n8, T41n8, zq8p, zq6q, zq8a, zq9x])
     refine ⟨fun h2 => ?_, fun h2 => ?_⟩
     ·have hlt : a < N := by have := of_decide_eq_true h2; omega
      have hadd : ArOk .add .i64 (a : Int) 1 ((a + 1 : Nat) : Int) := ArOk.to (by omega) (by omega) (by omega)
      refine ⟨memV_keys _, _, rfl, .val (.int .u64 (memF (memTo h (z.map (·.1)) (begL first) h.length) a)), by rw [mgetD_mem]; rfl, ⟨by omega, by omega⟩, ?_⟩
      dsimp only [zq7u, Nat.reduceBEq, zq73, zq0a, zq1y, nth, zq09, zq08, zq1w, denL, den, zq1v, splice, setn, YK, zq8s, zq9i, normF, zq6n, zq6l, zq6m, zq6k, zq89, zq87, zq86, zq8f, zq8c, zqa1, zq9q, Y_k, zq4w, zq8o, zq8p, zq6q, zq04, zq92, zq9b, zq0e, zq8t, zq4u, zqa2]
      have hset : setn (fillL ff N a) ((a : Int).toNat * 1) (.int .u64 (memF (memTo h (z.map (·.1)) (begL first) h.length) a)) = fillL ff N (a + 1) := by
       rw [setn_eq, Int.toNat_natCast, Nat.mul_one, ← fill_set ff hlt, ← hff]; rfl
      rw [hset]
      exact ⟨by unfold fillL; simp; omega, _, hadd, lend_rule fun q W rep => again (a + 1) hlt (by show N - (a + 1) < N - a; omega) q W (rep.le (by (simp only [setn, List.nil_append, List.cons_append, leF, leH_nil, leH_cons, leF_nil, lk, scp, scpL, scpO, resF, resH, resO, resV, resVL, nth, Nat.reduceBEq, Nat.reduceLT, decide_true, decide_false, List.length, List.length_cons, List.length_nil, Nat.reduceAdd, Bool.and_self, Bool.and_true, and_true, true_and, numF] <;> try simp)) (by (simp only [setn, List.nil_append, List.cons_append, leF, leH_nil, leH_cons, leF_nil, lk, scp, scpL, scpO, resF, resH, resO, resV, resVL, nth, Nat.reduceBEq, Nat.reduceLT, decide_true, decide_false, List.length, List.length_cons, List.length_nil, Nat.reduceAdd, Bool.and_self, Bool.and_true, and_true, true_and, numF] <;> try simp)))⟩
     ·have hil : a = N := by have := of_decide_eq_false h2; omega
      subst hil
      refine ret_mark (vs := [.slice (some ⟨go, 0, none⟩) a a, .int .i64 0]) 6 r41 rfl rfl rfl fun W hW => ?_
      have k := ov.heap (HeapOk.env (E := ⟨W', W'.heap.size, st, 59, [D]⟩) (E' := ⟨W', W'.heap.size, st, 59, []⟩) rfl rfl rfl hW)
      refine hfin _ _ W k.fresh' ?_
      have := k.owns (i := 8) rfl
      rw [fill_end] at this
      unfold finL
      rw [hff]
      exact this
  have hlt : n < h.length := by have := of_decide_eq_true h1; omega
  have hA31 : RowE ⟨W', W'.heap.size, st, 31, []⟩ A (cellsE h) := hAE.env rfl rfl rfl
  have hz31 : SpE ⟨W', W'.heap.size, st, 31, []⟩ B z := hz.env rfl rfl rfl
  have cl : ∀ k v, (evA h n).cells[k]? = some v → CellAt ⟨W', W'.heap.size, st, 31, []⟩ A ((n : Int).toNat * 9 + k) v := fun k v hk => evCell hA31 hlt k v hk
  have cl43 : ∀ k v, (evA h n).cells[k]? = some v → CellAt ⟨W', W'.heap.size, st, 59, []⟩ A ((n : Int).toNat * 9 + k) v := fun k v hk => evCell hAE hlt k v hk
  have hsome : A.isSome = true := hA.isSome (j := n * 9) (by rw [cellsE_len]; omega)
  have hadd : ArOk .add .i64 (n : Int) 1 ((n + 1 : Nat) : Int) := ArOk.to (by omega) (by omega) (by omega)
  refine ⟨⟨by omega, by omega, hsome⟩, _, cl 0 _ rfl, _, cl 1 _ rfl, _, cl 2 _ rfl, _, cl 3 _ rfl, _, cl 4 _ rfl, _, cl 5 _ rfl, _, cl 6 _ rfl, _, cl 7 _ rfl, _, cl 8 _ rfl, fun ge => ?_⟩
  have hmem : hapB h (z.map (·.1)) n = true → memTo h (z.map (·.1)) (begL first) (n + 1) = goesM (memTo h (z.map (·.1)) (begL first) n) (evA h n) ((ptZ z n).map (·.1)) := fun hb => by
   simp only [memTo]
   rw [if_pos hb, ptZ_at]
  have yld : ∀ (xo : Option (At × Hd)) (sx : SV) (xv : Value) (ge : Nat), PtOk z xo sx xv → ptZ z n = xo → hapB h (z.map (·.1)) n = true →
    G (cxOf Try.prog Try.f73 K73 T73 R') ⟨W', W'.heap.size, st, 31, []⟩ [.ops [⟨some 27, none, .callv (.tmp 24) [.tmp 25, .tmp 26]⟩, ⟨some 28, some (23, true), .k (.not (.tmp 27))⟩, ⟨some 29, none, .k (.pick (.tmp 23) (.tmp 28) (.const (.bool false)))⟩], .code (.cond (.tmp 29) .ret .skip), .blk 1, .code (.ops [⟨some 30, none, .k (.arith .add .i64 (.tmp 9) (.const (.int .i64 1)))⟩, ⟨some 9, none, .k (.mov (.tmp 30))⟩]), .lend I, .blk 0]
     { F := [(26, sx), (25, .val (.int .i64 n)), (24, .val (.func (.yield lo) #[] #[])), (23, .bt), (0, .val (.func (.yield lo) #[] #[])), (1, .ptr 3 0), (2, .ptr 5 0), (7, .val (.slice A h.length c)), (8, .val (.int .i64 h.length)), (9, .val (.int .i64 n))], H := [.cells g0 62 [.val (.slice A h.length c)], .map gm (memV (memTo h (z.map (·.1)) (begL first) n)), .cells g4 132 [.mp 1], .cells gh 62 [.val (.slice A h.length c)], .map gq (ptV z), .cells gb 148 [.mp 4], .obj D (.deferred (some [])), .obj lo (.loop rec), .cells ge 65 [.val (.int .i64 (evA h n).kind), .val (.int .i64 (evA h n).time), .val (.int .i64 (evA h n).core), .val (.int .i64 (evA h n).block), .val (.int .i64 (evA h n).tr), .val (.int .i64 (evA h n).lane), .val (.int .i64 (evA h n).addr), .val (.int .u64 (evA h n).value), .val (.int .i64 (evA h n).code)]] } := by
   intro xo sx xv ge hpt hxo hhap
   replace hmem := hmem hhap
   rw [hxo] at hmem
   have hpt2 := hpt
   obtain ⟨xo', hxo'⟩ : ∃ y, y = xo := ⟨_, rfl⟩
   rw [← hxo'] at hpt2 hmem
   obtain ⟨xv', hxv⟩ : ∃ y, y = xv := ⟨_, rfl⟩
   rw [← hxv] at hpt2
   rcases hpt with ⟨rfl, rfl, rfl⟩ | ⟨p, hp, rfl, rfl, rfl⟩
   all_goals
    refine yield_rule (C' := cxOf Try.prog Try.f73 K73 T73 R') (E := ⟨W', W'.heap.size, st, 59, []⟩) (i := 7) (rec := rec) (lno := lo) (keep := K41) ?_ ?_ ?_ hrec ?_ ?_ ?_ ?_ ?_ ?_
    ·rfl
    ·rfl
    ·rfl
    ·simp
    ·rfl
    ·rfl
    ·rfl
    ·exact extB_spec (by simp [extB, SO.blk, bump])
    intro J Q' hQ' hbeg hnorm hjmp
    have hF : NoPanic (fun _ _ _ => False) := fun _ _ _ h => h
    (refine Y_round hF 600 ?_; dsimp only [evL, zq8o, zq6n, Nat.reduceBEq, zq6l, zq6k, setPs, zq9y, t41n1, T41n1, zq9r, zq9q, Y_k, zq4u, YK, zq8t, zq9i, normF, zq6m, zq86, zq87, zq8j, zq8a, zq8c, zqa2, zq8d])
    refine lend_rule fun a W rep => hbeg _ _ rfl ?_ a W rep
    (refine Y_round hQ' 600 ?_; dsimp only [setn, zq9y, t41n2, T41n2, zq9t, zq9q, Y_k, zq5c, zq8o, zq6n, Nat.reduceBEq, zq6l, zq6k, zq1o, nth, zq1k, List.length_cons, List.length_nil, Nat.reduceAdd, dropL, takeL, zq19, zq18, YK, zq8t, zq4u, zq58, zq06, zq0w, zq1p, zq1c, List.nil_append, List.cons_append, zq1b, zq17, zq9j])
    refine ⟨⟨by omega, by omega, hsome⟩, _, cl43 0 _ rfl, _, cl43 1 _ rfl, _, cl43 2 _ rfl, _, cl43 3 _ rfl, _, cl43 4 _ rfl, _, cl43 5 _ rfl, _, cl43 6 _ rfl, _, cl43 7 _ rfl, _, cl43 8 _ rfl, ?_⟩
    generalize hm : (memTo h (z.map (·.1)) (begL first) n) = m at hmem ⊢
    refine call_rule (vs := [.map (some gm), (evA h n).val, xv']) (by rw [hxv]; rfl) (R := fun _ v W2 => v = .tuple #[] ∧ HExt [.cells g0 62 [.val (.slice A h.length c)], .map gm (memV m), .cells g4 132 [.mp 1], .cells gh 62 [.val (.slice A h.length c)], .map gq (ptV z), .cells gb 148 [.mp 4], .obj D (.deferred (some [])), .obj lo (.loop { rec with state := .busy }), .cells ge 65 [.val (.int .i64 (evA h n).kind), .val (.int .i64 (evA h n).time), .val (.int .i64 (evA h n).core), .val (.int .i64 (evA h n).block), .val (.int .i64 (evA h n).tr), .val (.int .i64 (evA h n).lane), .val (.int .i64 (evA h n).addr), .val (.int .u64 (evA h n).value), .val (.int .i64 (evA h n).code)]] (setn [.cells g0 62 [.val (.slice A h.length c)], .map gm (memV m), .cells g4 132 [.mp 1], .cells gh 62 [.val (.slice A h.length c)], .map gq (ptV z), .cells gb 148 [.mp 4], .obj D (.deferred (some [])), .obj lo (.loop { rec with state := .busy }), .cells ge 65 [.val (.int .i64 (evA h n).kind), .val (.int .i64 (evA h n).time), .val (.int .i64 (evA h n).core), .val (.int .i64 (evA h n).block), .val (.int .i64 (evA h n).tr), .val (.int .i64 (evA h n).lane), .val (.int .i64 (evA h n).addr), .val (.int .u64 (evA h n).value), .val (.int .i64 (evA h n).code)]] 1 (.map gm (memV (goesM m (evA h n) (xo'.map (·.1)))))) ∧ HeapOk ⟨W', W'.heap.size, st, 59, []⟩ (setn [.cells g0 62 [.val (.slice A h.length c)], .map gm (memV m), .cells g4 132 [.mp 1], .cells gh 62 [.val (.slice A h.length c)], .map gq (ptV z), .cells gb 148 [.mp 4], .obj D (.deferred (some [])), .obj lo (.loop { rec with state := .busy }), .cells ge 65 [.val (.int .i64 (evA h n).kind), .val (.int .i64 (evA h n).time), .val (.int .i64 (evA h n).core), .val (.int .i64 (evA h n).block), .val (.int .i64 (evA h n).tr), .val (.int .i64 (evA h n).lane), .val (.int .i64 (evA h n).addr), .val (.int .u64 (evA h n).value), .val (.int .i64 (evA h n).code)]] 1 (.map gm (memV (goesM m (evA h n) (xo'.map (·.1)))))) W2) (fun W hW => hpt2.goes hz (fun p hp => (hlen p hp).2) hW (i := 1) rfl (evA h n)) fun W v W2 hW hv => ⟨.tup [], _, by rw [hv.1]; simp [Is, IsL], hv.2.1, hv.2.2, ?_⟩
    rw [← hmem]
    (refine Y_round hQ' 600 ?_; dsimp only [zq8t, setn, zq9i, normF, zq6n, Nat.reduceBEq, zq6l, zq6k, zq6m, zq86, zq87, zq8j, zq8a, zq8c, zqa1, zqa3, zq8d])
    refine stop_rule fun a W rep => hnorm _ rfl (extB_spec (by simp [extB, SO.blk, bump])) ?_ _ a W rep
    (refine Y_go 600 ?_; dsimp only [zq8t, setn, Y_gk, zq6n, Nat.reduceBEq, zq6l, zq6k, zq69, YR, zq53, zq8o, zq0m, YK, Y_k, zq4v, zq8p, zq6p, zq0b, zq9i, normF, zq6m, zq8a, zq86, zq87, zq8c, zq9s, zq6g, YC, zq9p, zqa1, zq9q, zq4w, zq6q, zq04, zq92, zq9b, zq0e, zq4u, zqa2])
    exact ⟨_, hadd, lend_rule fun a W rep => hI (n + 1) hlt (by show h.length - (n + 1) < h.length - n; omega) a W (rep.le (by (simp only [setn, List.nil_append, List.cons_append, leF, leH_nil, leH_cons, leF_nil, lk, scp, scpL, scpO, resF, resH, resO, resV, resVL, nth, Nat.reduceBEq, Nat.reduceLT, decide_true, decide_false, List.length, List.length_cons, List.length_nil, Nat.reduceAdd, Bool.and_self, Bool.and_true, and_true, true_and, numF] <;> try simp)) (by (simp only [setn, List.nil_append, List.cons_append, leF, leH_nil, leH_cons, leF_nil, lk, scp, scpL, scpO, resF, resH, resO, resV, resVL, nth, Nat.reduceBEq, Nat.reduceLT, decide_true, decide_false, List.length, List.length_cons, List.length_nil, Nat.reduceAdd, Bool.and_self, Bool.and_true, and_true, true_and, numF] <;> try simp)))⟩
  cases hx : ptZ z n with
  | none =>
   refine ⟨ptV_keys z, _, rfl, .val (.pointer none), by rw [mget_pt]; unfold ptZ at hx; rw [hx]; rfl, ?_⟩
   dsimp only [zq87, zq6n, Nat.reduceBEq, zq6k, zq3u, zq3p, YK, zq8t, Y_k, zq4u, zq8o, Y_gk, zq6e, YS, zq9l, zq6l, zq6a, zq4v, zq8p, zq6o, zq0b, zq69, YR, zq9o, YG, zq5c, zq1o, nth, zq1k, List.length_cons, List.length_nil, Nat.reduceAdd, dropL, takeL, zq19, zq17, zq6c]
   refine ⟨fun hb => absurd hb (by simp), fun _ => ?_⟩
   have hat : ptAt (z.map (·.1)) n = none := by rw [ptZ_at, hx]; rfl
   refine call_val (R := fun v => v = .bool (plainB (evA h n))) (vs := [(evA h n).val]) rfl (fun W hW => plain55 _ W) fun v hv => ⟨bsv (plainB (evA h n)), by rw [hv]; cases plainB (evA h n) <;> simp [Is, bsv], ?_⟩
   cases hpl : plainB (evA h n) with
   | false =>
    simp only [bsv]
    (refine Y_go 600 ?_; dsimp only [zq8t, Y_k, zq4v, zq8p, zq6o, zq8o, zq6n, Nat.reduceBEq, zq6k, zq6l, zq0c, YK, zq4u, Y_gk, zq6b, YS, zq9o, zq6p, zq9i, normF, zq8a, zq89, zq87, zq8c, zq9s, zq6g, YC, zq9p, zqa1, zq9q, zq4w, zq6q, zq04, zq92, zq9b, zq0e, zqa2])
    have hhap : hapB h (z.map (·.1)) n = false := by unfold hapB; rw [hat, hpl]; rfl
    have hmem2 : memTo h (z.map (·.1)) (begL first) (n + 1) = memTo h (z.map (·.1)) (begL first) n := by
     simp only [memTo]
     rw [if_neg (by rw [hhap]; simp)]
    refine ⟨_, hadd, lend_rule fun a W rep => hI (n + 1) hlt (by show h.length - (n + 1) < h.length - n; omega) a W (rep.le (by (simp only [setn, List.nil_append, List.cons_append, leF, leH_nil, leH_cons, leF_nil, lk, scp, scpL, scpO, resF, resH, resO, resV, resVL, nth, Nat.reduceBEq, Nat.reduceLT, decide_true, decide_false, List.length, List.length_cons, List.length_nil, Nat.reduceAdd, Bool.and_self, Bool.and_true, and_true, true_and, numF] <;> try simp)) (by rw [hmem2]; (simp only [setn, List.nil_append, List.cons_append, leF, leH_nil, leH_cons, leF_nil, lk, scp, scpL, scpO, resF, resH, resO, resV, resVL, nth, Nat.reduceBEq, Nat.reduceLT, decide_true, decide_false, List.length, List.length_cons, List.length_nil, Nat.reduceAdd, Bool.and_self, Bool.and_true, and_true, true_and, numF] <;> try simp)))⟩
   | true =>
    simp only [bsv]
    (refine Y_go 600 ?_; dsimp only [zq8t, Y_k, zq4v, zq8p, zq6o, zq8o, zq6n, Nat.reduceBEq, zq6k, zq6l, zq0c, YK, zq4u, Y_gk, zq69, YR, zq9o, YG])
    have hhap : hapB h (z.map (·.1)) n = true := by unfold hapB; rw [hat, hpl]; rfl
    exact fun a W rep => yld none _ _ ge (.inl ⟨rfl, rfl, rfl⟩) hx hhap a W (rep.le (by (simp only [setn, List.nil_append, List.cons_append, leF, leH_nil, leH_cons, leF_nil, lk, scp, scpL, scpO, resF, resH, resO, resV, resVL, nth, Nat.reduceBEq, Nat.reduceLT, decide_true, decide_false, List.length, List.length_cons, List.length_nil, Nat.reduceAdd, Bool.and_self, Bool.and_true, and_true, true_and, numF] <;> try simp)) (by (simp only [setn, List.nil_append, List.cons_append, leF, leH_nil, leH_cons, leF_nil, lk, scp, scpL, scpO, resF, resH, resO, resV, resVL, nth, Nat.reduceBEq, Nat.reduceLT, decide_true, decide_false, List.length, List.length_cons, List.length_nil, Nat.reduceAdd, Bool.and_self, Bool.and_true, and_true, true_and, numF] <;> try simp)))
  | some p =>
   refine ⟨ptV_keys z, _, rfl, .adr (some ⟨p.2.g, 0, none⟩) 0, by rw [mget_pt]; unfold ptZ at hx; rw [hx]; rfl, ?_⟩
   dsimp only [zq8d, zq6n, Nat.reduceBEq, zq6k, zq3t, zq3p, YK, zq8t, Y_k, zq4u, zq8o, Y_gk, zq6e, YS, zq9l, zq6l, zq6a, zq4v, zq8p, zq6o, zq0b, zq69, YR, zq9o, YG, zq5c, zq1o, nth, zq1k, List.length_cons, List.length_nil, Nat.reduceAdd, dropL, takeL, zq19, zq17, zq6c]
   refine ⟨fun _ => ?_, fun hb => absurd hb (by simp)⟩
   have hhap : hapB h (z.map (·.1)) n = true := by unfold hapB; rw [ptZ_at, hx]; rfl
   exact fun a W rep => yld (some p) _ _ ge (.inr ⟨p, hzp n p hx, rfl, rfl, rfl⟩) hx hhap a W (rep.le (by (simp only [setn, List.nil_append, List.cons_append, leF, leH_nil, leH_cons, leF_nil, lk, scp, scpL, scpO, resF, resH, resO, resV, resVL, nth, Nat.reduceBEq, Nat.reduceLT, decide_true, decide_false, List.length, List.length_cons, List.length_nil, Nat.reduceAdd, Bool.and_self, Bool.and_true, and_true, true_and, numF] <;> try simp)) (by (simp only [setn, List.nil_append, List.cons_append, leF, leH_nil, leH_cons, leF_nil, lk, scp, scpL, scpO, resF, resH, resO, resV, resVL, nth, Nat.reduceBEq, Nat.reduceLT, decide_true, decide_false, List.length, List.length_cons, List.length_nil, Nat.reduceAdd, Bool.and_self, Bool.and_true, and_true, true_and, numF] <;> try simp)))
end Go.Proofs.Ytnedgfkgmdoahaa
