/- l1: All. -/
import Derived.Test.YtimmobbginjkfaaCaW4
import Derived.Test.YtimmobbginjkfaaCaSrt2
import Derived.Test.YtimmobbginjkfaaCaCode
set_option linter.unusedSimpArgs false
set_option linter.unusedVariables false
set_option linter.unnecessarySimpa false
namespace Go.Proofs.Ytimmobbginjkfaa
open Go Go.Sx Go.Ca
set_option maxRecDepth 100000
def hlTo (c : Ca) (i : Nat) : List En := ((List.range i).map c.sl).filter fun e => e.st != 0
theorem hlTo_len (c : Ca) (i : Nat) : (hlTo c i).length ≤ i := by
 unfold hlTo
 exact Nat.le_trans (List.length_filter_le _ _) (by simp)
theorem hlTo_succ (c : Ca) (i : Nat) : hlTo c (i + 1) = hlTo c i ++ if (c.sl i).st != 0 then [c.sl i] else [] := by
 unfold hlTo
 rw [List.range_succ, List.map_append, List.filter_append]
 cases h : (c.sl i).st != 0 <;> simp [List.filter, h]
theorem pushOwn {E : Env} {H : List SO} {W : World} {t : TypeId} {ver sz n c : Nat} {A : Option Addr} {xs : List Value} (h : HeapOk E H W) (hent : EntryOk [] (fun g => W.heap[g]?) (.own t ver sz A n c xs)) (hfr : ∀ g, (SO.own t ver sz A n c xs).fp = some g → g < W.heap.size ∧ ¬ E.old g ∧ g ∉ fps H) : HeapOk E (H ++ [.own t ver sz A n c xs]) W :=
 h.pushG (row := (SO.own t ver sz A n c xs).fp) (Nat.le_refl _) rfl rfl rfl (fun _ _ _ => rfl) (fun g hg => ⟨(hfr g hg.symm.symm).2.1, fun i e' hi he => (hfr g hg).2.2 (fps_mem.2 ⟨i, e', hi, he⟩)⟩) (fun g hg => ⟨.inl hg, (hfr g hg).1⟩) hent
theorem keepOwn {E : Env} {H1 r : List SO} {W : World} {i : Nat} {t : TypeId} {ver sz n c : Nat} {A : Option Addr} {xs : List Value} (h : HeapOk E (H1 ++ r) W) (hs : ∀ e ∈ H1, scpO H1.length e = true) (hi : nth r i = some (.own t ver sz A n c xs)) : HeapOk E (H1 ++ [.own t ver sz A n c xs]) W := by
 have hi' : nth (H1 ++ r) (H1.length + i) = some (.own t ver sz A n c xs) := nth_right (by omega) (by rw [Nat.add_sub_cancel_left]; exact hi)
 refine pushOwn (h.pre hs) (h.ents _ _ hi') fun g hg => ?_
 obtain ⟨h1, h2⟩ := h.fresh _ _ g hi' hg
 refine ⟨h1, h2, fun hm => ?_⟩
 obtain ⟨j, e', hj, hg'⟩ := fps_mem.1 hm
 exact h.dist j (H1.length + i) e' _ g (by have := nth_lt hj; omega) (nth_append_left hj) hi' hg' hg
theorem unlendN {E : Env} {H1 r : List SO} {W W' : World} {nt : Nat} {mk : List Nat} {t : TypeId} {ver sz n c : Nat} {A : Option Addr} {xs : List Value} (h : HeapOk E (H1 ++ r) W) (k : HeapOk ⟨W, W.heap.size, fps H1, nt, mk⟩ (H1 ++ [.own t ver sz A n c xs]) W') (hs : ∀ e ∈ H1, scpO H1.length e = true) : HeapOk E ((H1 ++ r) ++ [.own t ver sz A n c xs]) W' := by
 have hi' : nth (H1 ++ [SO.own t ver sz A n c xs]) H1.length = some (.own t ver sz A n c xs) := nth_right (Nat.le_refl _) (by rw [Nat.sub_self]; rfl)
 have h2 : HeapOk E (H1 ++ r) W' := h.unlend (k.pre hs) (HExt.refl _) rfl
 refine pushOwn h2 (k.ents _ _ hi') fun g hg => ?_
 obtain ⟨q1, q2⟩ := k.fresh _ _ g hi' hg
 have hge : g ∈ fps H1 ∨ W.heap.size ≤ g := by
  by_cases hm : g ∈ fps H1
  ·exact .inl hm
  ·refine .inr (Nat.le_of_not_lt fun hl => q2 ⟨hl, hm⟩)
 have hnm : g ∉ fps H1 := fun hm => by
  obtain ⟨j, e', hj, hg'⟩ := fps_mem.1 hm
  exact k.dist j H1.length e' _ g (by have := nth_lt hj; omega) (nth_append_left hj) hi' hg' hg
 have hge : W.heap.size ≤ g := hge.resolve_left hnm
 refine ⟨q1, fun ho => ?_, fun hm => ?_⟩
 ·have := Nat.lt_of_lt_of_le ho.1 h.floor
  omega
 ·have := h.fps_lt hm
  omega
theorem all11 {W : World} (gc gs : Nat) (c : Ca) (ok : CaOk c) (b0 : World) (N : Nat) (st : List Nat) (nt0 : Nat) (mk0 : List Nat) (hW : HeapOk ⟨b0, N, st, nt0, mk0⟩ (caF gc gs c) W) :
  CallsV Try.prog 11 [.pointer (some ⟨gc, 0, none⟩)] W fun v W' => ∃ (es : List En) (B : Option Addr) (bc : Nat), es.Perm (hlTo c c.n) ∧ (es.Pairwise fun x y => x.line ≤ y.line) ∧ v = .slice B es.length bc ∧ HeapOk ⟨b0, N, st, nt0, mk0⟩ (caF gc gs c ++ [.own 44 0 21 B es.length bc (esV es)]) W' := by
 refine calls_lentM (keep := K11) (nt := 17) (svs := [.ptr 0 0]) Try.func11 x11 n11 (by simp) hW (by simp [IsL, Is, caF, blk, nth, SO.blk]) fun R hR => ?_
 (refine Y_goM 600 ?_; dsimp only [X11, numF, Nat.reduceAdd, caF, zq9r, zq9q, Y_k, zq4u, zq8p, zq6u, YK, zq8t, zq9i, normF, zq6n, Nat.reduceBEq, zq6l, zq6k, zq6m, zq86, zq87, zq8c, zq9y, t11n5, T11n5, zq5e, List.length_cons, List.length_nil, List.map, List.cons_append, List.nil_append, t11n4, T11n4, zq8o, zq9j])
 intro go
 refine call_rule (vs := [.pointer (some ⟨gc, 0, none⟩)]) rfl (R := fun W v W' => ∃ g1, v = .func (.func 42) #[] #[.pointer (some ⟨g1, 0, none⟩)] ∧ HeapOk ⟨W, W.heap.size, [], 4, []⟩ [.cells g1 26 [.val (.pointer (some ⟨gc, 0, none⟩))]] W') (fun W hW => held24 _ W) fun W v W2 hW ⟨g1, hv, hh⟩ => ?_
 refine ⟨.fn (.func 42) [] [.ptr 3 0], [.cells gc 66 [.val (.int .i64 c.sets), .val (.int .i64 c.ways), .slc 1 0 c.n c.n, .val (.int .i64 c.uses)], .row gs 44 (slV c.n c.sl), .cells go 32 [.val (.slice none 0 0)], .cells g1 26 [.ptr 0 0]], ?_, HExt.push _ _, ?_, ?_⟩
 ·rw [hv]; simp [Is, IsL, blk, nth, SO.blk]
 ·refine heapJoin (H2' := [.cells g1 26 [.ptr 0 0]]) hW hh rfl fun e he => ?_
  simp only [List.mem_singleton] at he
  subst he
  obtain ⟨c, hc, hl⟩ := hh.ent (e := .cells g1 26 [.val (.pointer (some ⟨gc, 0, none⟩))]) (by simp)
  refine ⟨c, hc, ?_⟩
  simp only [IsL, Is, blk, nth, SO.blk] at hl ⊢
  obtain ⟨v, r, rfl, rfl, e⟩ := hl
  exact ⟨_, _, ⟨gc, rfl, rfl⟩, rfl, e⟩
 clear hh hv hW
 (refine Y_goM 600 ?_; dsimp only [zq8t, zq9i, normF, zq6n, Nat.reduceBEq, zq6l, zq6k, zq6m, zq86, zq8j, zq8c, zq87, zq9y, t11n1, T11n1, zq9t, zq9w])
 refine rng_rule rfl rfl (gf := 42) (caps := [.pointer (some ⟨g1, 0, none⟩)]) rfl ok42 ?_
 intro D lo rec hrec R' hend hjump W3 hW3
 refine calls_in (keep := K42) (nt := 33) (E := ⟨b0, N, st, 17, []⟩) (svs := [.val (.func (.yield lo) #[] #[]), .ptr 3 0]) Try.func42 x42 n42 (by simp) hW3 (by simp [IsL, Is, blk, nth, SO.blk]) ?_
 (refine Y_go 600 ?_; dsimp only [X42, numF, Nat.reduceAdd, List.cons_append, List.nil_append, zq9z])
 refine scp_rule (fun _ _ _ h => h) ?_
 (refine Y_go 600 ?_; dsimp only [zq9r, zq9q, Y_k, zq5c, zq8o, zq6n, Nat.reduceBEq, zq6l, zq6k, zq1o, nth, zq1k, List.length_cons, List.length_nil, Nat.reduceAdd, dropL, takeL, zq19, zq18, YK, zq8t, zq5t, zq3s, zq3q, zq9i, normF, zq6m, zq86, zq87, zq8c, zq9s, zq6h, zq8x, YC, zq9x, zq9p, zqa0, zq9y, t42n5, T42n5, zq5i, zq29, zq5a, zq14, zq55, zq0s, zq4u, zq8p, zq6q, zq8a, zq9t, zq9v])
 have hn := ok.n32
 refine ⟨fun h => absurd h (by decide), fun _ => ?_⟩
 have hst : ∀ (i : Nat), (hlTo c i).length ≤ i := hlTo_len c
 refine loop_go (α := Nat × Option Addr × Nat) (fun q => q.1 ≤ c.n) (fun _ => ⟨b0, N, st, 33, []⟩)
  (fun q => { F := [(0, .val (.func (.yield lo) #[] #[])), (1, .ptr 3 0), (10, .val (.int .i64 c.n)), (11, .val (.int .i64 q.1))], H := [.cells gc 66 [.val (.int .i64 c.sets), .val (.int .i64 c.ways), .slc 1 0 c.n c.n, .val (.int .i64 c.uses)], .row gs 44 (slV c.n c.sl), .cells go 32 [.own 6 0], .cells g1 26 [.ptr 0 0], .obj D (.deferred (some [])), .obj lo (.loop rec), .own 44 0 21 q.2.1 (hlTo c q.1).length q.2.2 (esV (hlTo c q.1))] }) (fun q => c.n - q.1) (fun _ => rfl) ?start ?round
 case start =>
  intro a W rep
  exact ⟨(0, none, 0), Nat.zero_le _, (rep.adoptC 2 44 21 rfl).le (by (simp only [setn, List.nil_append, List.cons_append, leF, leH_nil, leH_cons, leF_nil, lk, scp, scpL, scpO, resF, resH, resO, resV, resVL, nth, Nat.reduceBEq, Nat.reduceLT, decide_true, decide_false, List.length, List.length_cons, List.length_nil, Nat.reduceAdd, Bool.and_self, Bool.and_true, and_true, true_and, numF] <;> try simp)) (by (simp only [setn, List.nil_append, List.cons_append, leF, leH_nil, leH_cons, leF_nil, lk, scp, scpL, scpO, resF, resH, resO, resV, resVL, nth, Nat.reduceBEq, Nat.reduceLT, decide_true, decide_false, List.length, List.length_cons, List.length_nil, Nat.reduceAdd, Bool.and_self, Bool.and_true, and_true, true_and, numF] <;> try simp); exact ⟨rfl, rfl⟩)⟩
 case round =>
  rintro ⟨i, B, bc⟩ hi I again
  simp only at hi ⊢
  (refine Y_go 600 ?_; dsimp only [zq9y, t42n4, T42n4, zq9r, zq9q, Y_k, zq50, zq8o, zq6n, Nat.reduceBEq, zq6l, zq6k, zq04, zq92, zq9b, zq0i, zq9e, YK, zq8t, zq9i, normF, zq6m, zq86, zq87, zq8c, t42n3, T42n3, zq9s, zq6h, zq8x, YC, zq9p, t42n2, T42n2, zq9t, zq4u, zq89, t42n1, T42n1, zq5c, zq1o, nth, zq1k, List.length_cons, List.length_nil, Nat.reduceAdd, dropL, takeL, zq19, zq18, zq5i, zq29, zq5a, zq14, zq58, zq06, zq0x, zq1l, zq1c, List.nil_append, zq1b, zq8p, zq6q, zq9c, zq9u, popTo, zq6i, YP, zq4w, zq0e, zqa2, t42n0, T42n0, zq9k, zqa3])
  refine ⟨fun hlt => ?_, fun hge => ?_⟩
  rotate_left
  ·have hie : i = c.n := by have := of_decide_eq_false hge; omega
   subst hie
   refine ret_rule (keep := K42) (tab := T42) (vs := []) r42 rfl rfl fun W hW => ?_
   refine hend _ _ W ?_ (extB_spec ?_) (HeapOk.env (E := ⟨b0, N, st, 33, []⟩) (E' := ⟨b0, N, st, 17, []⟩) rfl rfl rfl hW) ?_
   ·rfl
   ·simp [extB, SO.blk, bump]
   ·(refine Y_goM 600 ?_; dsimp only [List.length_cons, List.length_nil, Nat.reduceAdd, setn, zqa1, zq9y, t11n3, T11n3, zq9r, zq9q, Y_k, zq5c, zq8o, zq6n, Nat.reduceBEq, zq6l, zq6k, zq1o, nth, zq1k, dropL, takeL, zq19, zq18, YK, zq8t, zq9j])
    have hl32 := ok.n32
    have hlh := hlTo_len c c.n
    refine call_rule (vs := [.slice B (hlTo c c.n).length bc, .func (.func 26) #[] #[]]) rfl (R := fun W v W' => v = .tuple #[] ∧ ∃ gs' : List En, gs'.Perm (hlTo c c.n) ∧ (gs'.Pairwise fun x y => x.line ≤ y.line) ∧ HeapOk ⟨b0, N, st, 17, [D]⟩ [.cells gc 66 [.val (.int .i64 c.sets), .val (.int .i64 c.ways), .slc 1 0 c.n c.n, .val (.int .i64 c.uses)], .row gs 44 (slV c.n c.sl), .cells go 32 [.own 6 0], .cells g1 26 [.ptr 0 0], .obj D (.deferred (some [])), .obj lo (.loop { rec with state := .exhausted }), .own 44 0 21 B (hlTo c c.n).length bc (esV gs')] W') (fun W hW => sort25 hW (i := 6) rfl (by omega)) fun W v W2 hW ⟨hv, es, hp, hs, hh⟩ => ⟨.tup [], _, by rw [hv]; simp [Is, IsL], HExt.setOwn (i := 6) rfl (Nat.le_refl _) fun _ => ⟨rfl, rfl, rfl⟩, hh, ?_⟩
    have hlen := hp.length_eq
    rw [← hlen]
    dsimp only [zq8t, setn]
    (refine Y_goM 600 ?_; dsimp only [zq9i, normF, zq6n, Nat.reduceBEq, zq6l, zq6k, zq6m, zq86, zq8j, zq8c, zq87, zq9y, t11n2, T11n2, zq9r, zq9q, Y_k, zq5c, zq8o, zq1o, nth, zq1k, List.length_cons, List.length_nil, Nat.reduceAdd, dropL, takeL, zq19, zq18, YK, zq8t, zq4u, zq8f, zq9x])
    refine ret_mark (vs := [.slice B es.length bc]) 4 r11 rfl rfl rfl fun W hW => hR _ _ ⟨es, B, bc, hp, hs, rfl, ?_⟩
    exact HeapOk.env (E := ⟨b0, N, st, 17, [D]⟩) (E' := ⟨b0, N, st, nt0, mk0⟩) rfl rfl rfl (keepOwn (H1 := caF gc gs c) (r := [_, _, _, _, _]) (i := 4) hW (caF_pre gc gs c) rfl)
  have hlt : i < c.n := by have := of_decide_eq_true hlt; omega
  have hadd : ArOk .add .i64 (i : Int) 1 ((i + 1 : Nat) : Int) := ArOk.to (by omega) (by omega) (by omega)
  have hsu := hlTo_succ c i
  have hli := hlTo_len c i
  have hgo : ∀ B bc l, hlTo c (i + 1) = l → ∀ (a : Act) (W : World), Rep ⟨b0, N, st, 33, []⟩ { F := [(0, .val (.func (.yield lo) #[] #[])), (1, .ptr 3 0), (10, .val (.int .i64 c.n)), (11, .val (.int .i64 ((i + 1 : Nat) : Int)))], H := [.cells gc 66 [.val (.int .i64 c.sets), .val (.int .i64 c.ways), .slc 1 0 c.n c.n, .val (.int .i64 c.uses)], .row gs 44 (slV c.n c.sl), .cells go 32 [.own 6 0], .cells g1 26 [.ptr 0 0], .obj D (.deferred (some [])), .obj lo (.loop rec), .own 44 0 21 B l.length bc (esV l)] } a W → I a W := fun B bc l hl a W rep => by
   subst hl; exact again (i + 1, B, bc) hlt (by show c.n - (i + 1) < c.n - i; omega) a W rep
  rw [Int.toNat_natCast, Nat.zero_add]
  refine ⟨⟨by omega, by omega⟩, (c.sl i).st, slV_atm 1 hlt rfl rfl, fun h0 => ⟨_, hadd, lend_rule fun a W rep => hgo B bc (hlTo c i) (by rw [hsu, if_neg (by simpa using h0)]; simp) a W (rep.le (by (simp only [setn, List.nil_append, List.cons_append, leF, leH_nil, leH_cons, leF_nil, lk, scp, scpL, scpO, resF, resH, resO, resV, resVL, nth, Nat.reduceBEq, Nat.reduceLT, decide_true, decide_false, List.length, List.length_cons, List.length_nil, Nat.reduceAdd, Bool.and_self, Bool.and_true, and_true, true_and, numF] <;> try simp)) (by (simp only [setn, List.nil_append, List.cons_append, leF, leH_nil, leH_cons, leF_nil, lk, scp, scpL, scpO, resF, resH, resO, resV, resVL, nth, Nat.reduceBEq, Nat.reduceLT, decide_true, decide_false, List.length, List.length_cons, List.length_nil, Nat.reduceAdd, Bool.and_self, Bool.and_true, and_true, true_and, numF] <;> try simp)))⟩, fun h0 => ⟨⟨by omega, by omega⟩, ?_⟩⟩
  rw [if_pos (by simpa using h0)] at hsu
  clear again
  generalize hlTo c i = l0 at hsu hli ⊢
  refine yield_rule (C' := cxOf Try.prog Try.f42 K42 T42 R') (E := ⟨b0, N, st, 17, []⟩) (i := 5) (rec := rec) (lno := lo) (keep := K11) ?_ ?_ ?_ hrec ?_ ?_ ?_ ?_ ?_ ?_
  ·rfl
  ·rfl
  ·rfl
  ·simp
  ·rfl
  ·rfl
  ·rfl
  ·exact extB_spec (by simp [extB, SO.blk, bump])
  intro J Q' hQ' hbeg hnorm hjmp
  have hF : NoPanic (fun _ _ _ => False) := fun _ _ _ h => h
  (refine Y_round hF 600 ?_; dsimp only [evL, zq8o, zq6n, Nat.reduceBEq, zq6k, setPs, zq9q, Y_k, zq4u, YK, zq8t, zq9i, normF, zq6l, zq8c, zq8j, zq87, zqa2])
  refine lend_rule fun a W rep => hbeg _ _ rfl ?_ a W rep
  (refine Y_round hQ' 600 ?_; dsimp only [setn, zq9y, t11n0, T11n0, zq9t, zq9q, Y_k, zq5c, zq8o, zq6n, Nat.reduceBEq, zq6l, zq6k, zq1o, nth, zq1k, List.length_cons, List.length_nil, Nat.reduceAdd, dropL, takeL, zq19, zq18, YK, zq8t, zq4u, zq5i, zq29, zq1l, zq1c, List.nil_append, List.cons_append, zq1d, zq1b, zq17, zq5h, List.map, zq6q, zq6p, repL, zq23, Nat.reduceMul, zq7t, zq8l, zq73, zq8m, zq7g, zq8k, zq0a, zq20, splice, zq24, zq26, zq5l, zq2w, zq09, zq08, zq2s, zq9b, zq2r, zq2n, zq2j, zq2k, denL, den, zq2l, zq2h, zq5d, zq81, zq7n, zq1x, zq1t, zq1r, zq8s, zq9i, normF, zq8c, zq8j, zq87, zqa1, zqa3])
  refine ⟨_, slV_atm 0 hlt (by omega) rfl, _, slV_atm 1 hlt (by omega) rfl, _, slV_atm 2 hlt (by omega) rfl, _, slV_atm 3 hlt (by omega) rfl, _, slV_atm 4 hlt (by omega) rfl, _, slV_atm 5 hlt (by omega) rfl, _, slV_atm 6 hlt (by omega) rfl, _, slV_atm 7 hlt (by omega) rfl, _, slV_atm 8 hlt (by omega) rfl, _, slV_atm 9 hlt (by omega) rfl, _, slV_atm 10 hlt (by omega) rfl, _, slV_atm 11 hlt (by omega) rfl, _, slV_atm 12 hlt (by omega) rfl, _, slV_atm 13 hlt (by omega) rfl, _, slV_atm 14 hlt (by omega) rfl, _, slV_atm 15 hlt (by omega) rfl, _, slV_atm 16 hlt (by omega) rfl, _, slV_atm 17 hlt (by omega) rfl, _, slV_atm 18 hlt (by omega) rfl, _, slV_atm 19 hlt (by omega) rfl, _, slV_atm 20 hlt (by omega) rfl, fun gx => ⟨⟨by simp only [maxLen]; omega, by omega⟩, fun B2 bc2 => ?_⟩⟩
  refine stop_rule fun a W rep => hnorm _ rfl (extB_spec (by simp [extB, SO.blk, bump])) ?_ _ a W rep
  (refine Y_go 600 ?_; dsimp only [zq8t, setn, Y_k, zq53, zq8o, zq6n, Nat.reduceBEq, zq6k, zq0m, YK, zq9i, normF, zq6l, zq6m, zq8a, zq89, zq87, zq86, zq8c, zq9s, zq6g, YC, zq9p, zqa1, zq9q, zq4w, zq8p, zq6q, zq04, zq92, zq9b, zq0e, zq4u, zqa2])
  refine ⟨_, hadd, lend_rule fun a W rep => hgo B2 bc2 (l0 ++ [c.sl i]) hsu a W ?_⟩
  have e1 : esV (l0 ++ [c.sl i]) = esV l0 ++ enV (c.sl i) := by simp [esV]
  rw [e1, List.length_append]
  exact rep.res.le (by (simp only [setn, List.nil_append, List.cons_append, leF, leH_nil, leH_cons, leF_nil, lk, scp, scpL, scpO, resF, resH, resO, resV, resVL, nth, Nat.reduceBEq, Nat.reduceLT, decide_true, decide_false, List.length, List.length_cons, List.length_nil, Nat.reduceAdd, Bool.and_self, Bool.and_true, and_true, true_and, numF] <;> try simp)) (by simp only [enV]; (simp only [setn, List.nil_append, List.cons_append, leF, leH_nil, leH_cons, leF_nil, lk, scp, scpL, scpO, resF, resH, resO, resV, resVL, nth, Nat.reduceBEq, Nat.reduceLT, decide_true, decide_false, List.length, List.length_cons, List.length_nil, Nat.reduceAdd, Bool.and_self, Bool.and_true, and_true, true_and, numF] <;> try simp))
end Go.Proofs.Ytimmobbginjkfaa
