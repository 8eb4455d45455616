/- l1: where a line is held. -/
import Derived.Test.YtimmobbginjkfaaCaPlain
import Derived.Test.YtimmobbginjkfaaCaCode
set_option linter.unusedSimpArgs false
set_option linter.unusedVariables false
set_option linter.unnecessarySimpa false
namespace Go.Proofs.Ytimmobbginjkfaa
open Go Go.Sx Go.Ca
set_option maxRecDepth 100000
theorem set49 (A : Option Addr) (line : Int) (w : World) :
  CallsV Try.prog 49 [.pointer A, .int .i64 line] w fun v w' => ∃ g1 g2, v = .func (.func 60) #[] #[.pointer (some ⟨g1, 0, none⟩), .pointer (some ⟨g2, 0, none⟩)] ∧ HeapOk ⟨w, w.heap.size, [], 6, []⟩ [.cells g1 26 [.val (.pointer A)], .cells g2 3 [.val (.int .i64 line)]] w' := by
 refine calls_go (keep := K49) (nt := 6) (svs := [.val (.pointer A), .val (.int .i64 line)]) Try.func49 x49 n49 (by simp) (by simp [IsL, Is]) fun R hR => ?_
 (refine Y_go 600 ?_; dsimp only [X49, numF, Nat.reduceAdd, zq9r, zq9q, Y_k, zq5f, zq8o, zq6n, Nat.reduceBEq, zq6k, zq7u, zq76, zq0a, zq1z, List.length_nil, List.nil_append, YK, zq8t, zq6l, zq73, List.length_cons, List.cons_append, zq4u, zq8p, zq6y, zq9i, normF, zq87, zq8c, zq9y, t49n0, T49n0, zq5k, evL, zq8j, zq9x])
 intro g1 g2
 exact ret_rule (vs := [.func (.func 60) #[] #[.pointer (some ⟨g1, 0, none⟩), .pointer (some ⟨g2, 0, none⟩)]]) r49 rfl rfl fun W hW => hR _ _ ⟨g1, g2, rfl, hW⟩
theorem ok60 : fnOk Try.prog 60 = true := by kernel_rfl
def atV (gs : Nat) (c : Ca) (line : Int) : Value := match atC c line with
 | some j => .pointer (some ⟨gs, j * 21, none⟩)
 | none => .pointer none
theorem at40 {E0 : Env} {W : World} (gc gs : Nat) (c : Ca) (ok : CaOk c) (line : Int) (hW : HeapOk E0 (caF gc gs c) W) :
  CallsV Try.prog 40 [.pointer (some ⟨gc, 0, none⟩), .int .i64 line] W fun v W' => v = atV gs c line ∧ HeapOk E0 (caF gc gs c) W' := by
 obtain ⟨b0, N, st, nt0, mk0⟩ := E0
 refine calls_lentM (keep := K40) (nt := 24) (svs := [.ptr 0 0, .val (.int .i64 line)]) Try.func40 x40 n40 (by simp) hW (by simp [IsL, Is, caF, blk, nth, SO.blk]) fun R hR => ?_
 have fin : ∀ (v : Value) (W : World) (r : List SO) (nt : Nat) (mk : List Nat), v = atV gs c line → HeapOk ⟨b0, N, st, nt, mk⟩ (caF gc gs c ++ r) W → R v W := fun v W r nt mk hv hW => hR _ _ ⟨hv, HeapOk.env (E := ⟨b0, N, st, nt, mk⟩) (E' := ⟨b0, N, st, nt0, mk0⟩) rfl rfl rfl (hW.pre (caF_pre gc gs c))⟩
 (refine Y_goM 600 ?_; dsimp only [X40, numF, Nat.reduceAdd, caF, zq9r, zq9q, Y_k, zq5f, zq8o, zq6n, Nat.reduceBEq, zq6l, zq6k, zq7u, zq73, zq0a, zq1z, List.length_cons, List.length_nil, List.cons_append, List.nil_append, YK, zq8t, zq5e, List.map, zq6t, zq9i, normF, zq6m, zq86, zq8c, zq87, zq9y, t40n4, T40n4, zq4u, zq5c, zq1o, nth, zq1k, dropL, takeL, zq19, zq18, zq9j])
 intro gl gr
 refine call_rule (vs := [.pointer (some ⟨gc, 0, none⟩), .int .i64 line]) rfl (R := fun W v W' => ∃ g1 g2, v = .func (.func 60) #[] #[.pointer (some ⟨g1, 0, none⟩), .pointer (some ⟨g2, 0, none⟩)] ∧ HeapOk ⟨W, W.heap.size, [], 6, []⟩ [.cells g1 26 [.val (.pointer (some ⟨gc, 0, none⟩))], .cells g2 3 [.val (.int .i64 line)]] W') (fun W hW => set49 _ line W) fun W v W2 hW ⟨g1, g2, hv, hh⟩ => ?_
 refine ⟨.fn (.func 60) [] [.ptr 4 0, .ptr 5 0], [.cells gc 66 [.val (.int .i64 c.sets), .val (.int .i64 c.ways), .slc 1 0 c.n c.n, .val (.int .i64 c.uses)], .row gs 44 (slV c.n c.sl), .cells gl 3 [.val (.int .i64 line)], .cells gr 70 [.val (.pointer none)], .cells g1 26 [.ptr 0 0], .cells g2 3 [.val (.int .i64 line)]], ?_, ?_, ?_, ?_⟩
 ·rw [hv]; simp [Is, IsL, blk, nth, SO.blk]
 ·exact HExt.app [.cells gc 66 [.val (.int .i64 c.sets), .val (.int .i64 c.ways), .slc 1 0 c.n c.n, .val (.int .i64 c.uses)], .row gs 44 (slV c.n c.sl), .cells gl 3 [.val (.int .i64 line)], .cells gr 70 [.val (.pointer none)]] [.cells g1 26 [.ptr 0 0], .cells g2 3 [.val (.int .i64 line)]]
 ·refine heapJoin (H2' := [.cells g1 26 [.ptr 0 0], .cells g2 3 [.val (.int .i64 line)]]) hW hh rfl fun e he => ?_
  simp only [List.mem_cons, List.not_mem_nil, or_false] at he
  rcases he with rfl | rfl
  ·obtain ⟨c, hc, hl⟩ := hh.ent (e := .cells g1 26 [.val (.pointer (some ⟨gc, 0, none⟩))]) (by simp)
   refine ⟨c, hc, ?_⟩
   simp only [IsL, Is, blk, nth, SO.blk] at hl ⊢
   obtain ⟨v, r, rfl, rfl, e⟩ := hl
   exact ⟨_, _, ⟨gc, rfl, rfl⟩, rfl, e⟩
  ·exact (hh.ent (e := .cells g2 3 [.val (.int .i64 line)]) (by simp)).shut rfl
 clear hh hv hW
 (refine Y_goM 600 ?_; dsimp only [zq8t, zq9i, normF, zq6n, Nat.reduceBEq, zq6l, zq6k, zq6m, zq86, zq8j, zq8c, zq87, zq9y, t40n2, T40n2, zq9t, zq9w])
 refine rng_rule rfl rfl (gf := 60) (caps := [.pointer (some ⟨g1, 0, none⟩), .pointer (some ⟨g2, 0, none⟩)]) rfl ok60 ?_
 intro D lo rec hrec R' hend hjump W3 hW3
 refine calls_in (keep := K60) (nt := 42) (E := ⟨b0, N, st, 24, []⟩) (svs := [.val (.func (.yield lo) #[] #[]), .ptr 4 0, .ptr 5 0]) Try.func60 x60 n60 (by simp) hW3 (by simp [IsL, Is, blk, nth, SO.blk]) ?_
 (refine Y_go 600 ?_; dsimp only [X60, numF, Nat.reduceAdd, List.cons_append, List.nil_append, zq9r, zq9q, Y_k, zq5c, zq8o, zq6n, Nat.reduceBEq, zq6l, zq6k, zq1o, nth, zq1k, List.length_cons, List.length_nil, dropL, takeL, zq19, zq18, YK, zq8t, zq5t, zq3s, zq3q, zq4u, Y_gk, zq6e, YS, zq6a, zq4v, zq8p, zq6o, zq0b, zq9i, normF, zq6m, zq86, zq89, zq8c, zq87, zq9s, zq6f, YC, zq9x, YR, zq6c, zq50, zq6q, zq04, zq92, zq9b, zq0i, zq9e, zq0c, zq6h, zq8x, zq9p, zq9y, t60n5, T60n5, zq5i, zq29, zq5a, zq14, Nat.add_zero, zq4x, zq0f, zq4w, zq0e, zq8a, t60n4, T60n4, zq9t, zq9v])
 have stop : ∀ (s : SS), s.H = [.cells gc 66 [.val (.int .i64 c.sets), .val (.int .i64 c.ways), .slc 1 0 c.n c.n, .val (.int .i64 c.uses)], .row gs 44 (slV c.n c.sl), .cells gl 3 [.val (.int .i64 line)], .cells gr 70 [.val (.pointer none)], .cells g1 26 [.ptr 0 0], .cells g2 3 [.val (.int .i64 line)], .obj D (.deferred (some [])), .obj lo (.loop rec)] → atC c line = none → RetG (cxOf Try.prog Try.f60 K60 T60 R') ⟨b0, N, st, 42, []⟩ s := by
  rintro ⟨F, H⟩ rfl hno
  refine ret_rule (vs := []) r60 rfl rfl fun W hW => ?_
  refine hend _ _ W ?_ (extB_spec ?_) (HeapOk.env (E := ⟨b0, N, st, 42, []⟩) (E' := ⟨b0, N, st, 24, []⟩) rfl rfl rfl hW) ?_
  ·rfl
  ·simp [extB, SO.blk, bump]
  ·(refine Y_goM 600 ?_; dsimp only [List.length_cons, List.length_nil, Nat.reduceAdd, setn, zqa1, zq9y, t40n3, T40n3, zq9r, zq9q, Y_k, zq5d, zq8o, zq6n, Nat.reduceBEq, zq6l, zq6k, zq8p, zq6t, zq7u, zq76, zq0a, zq1x, nth, zq1t, dropL, takeL, zq1r, splice, YK, zq8s, zq9i, normF, zq6m, zq86, zq8j, zq8c, zq87, zq9x])
   refine ret_rvm (vs := [.pointer none]) 6 r40 rfl rfl rfl fun W hW => ?_
   exact fin (.pointer none) W _ 24 _ (by unfold atV; rw [hno]) (HeapOk.env (E := ⟨b0, N, st, 24, [D]⟩) (E' := ⟨b0, N, st, 24, []⟩) rfl rfl rfl hW)
 refine ⟨fun h => absurd h (by decide), fun _ => ⟨fun hneg => stop _ rfl ?_, fun hpos => ?_⟩⟩
 ·unfold atC; rw [if_pos (of_decide_eq_true hneg)]
 have hpos := of_decide_eq_false hpos
 obtain ⟨L, rfl⟩ : ∃ L : Nat, (L : Int) = line := ⟨line.toNat, by omega⟩
 have hat : atC c (L : Int) = atTo c (L : Int) c.ways := by unfold atC; rw [if_neg hpos]
 have hfr := fun {i : Nat} (hi : i < c.ways) => Ca.from_lt ok (L : Int) hi
 have hn := ok.n32
 have hw := ok.w1
 have hw4 := ok.w4
 have hs1 := ok.s1
 have hf0 := hfr (i := 0) (by omega)
 refine ⟨_, DivOk.rem_nn (by omega) (by omega), _, mulOk (from_eq c L) (by omega) (by omega), ?_⟩
 refine loop_go (α := Nat) (fun i => i ≤ c.ways ∧ atTo c (L : Int) i = none) (fun _ => ⟨b0, N, st, 42, []⟩)
  (fun i => { F := [(0, .val (.func (.yield lo) #[] #[])), (1, .ptr 4 0), (2, .ptr 5 0), (4, .val (.int .i64 (c.from (L : Int) : Nat))), (26, .val (.int .i64 c.ways)), (27, .val (.int .i64 i))], H := [.cells gc 66 [.val (.int .i64 c.sets), .val (.int .i64 c.ways), .slc 1 0 c.n c.n, .val (.int .i64 c.uses)], .row gs 44 (slV c.n c.sl), .cells gl 3 [.val (.int .i64 (L : Int))], .cells gr 70 [.val (.pointer none)], .cells g1 26 [.ptr 0 0], .cells g2 3 [.val (.int .i64 (L : Int))], .obj D (.deferred (some [])), .obj lo (.loop rec)] }) (fun i => c.ways - i) (fun _ => rfl) ?start ?round
 case start =>
  intro a W rep
  exact ⟨0, ⟨Nat.zero_le _, rfl⟩, rep.le (by (simp only [setn, List.nil_append, List.cons_append, leF, leH_nil, leH_cons, leF_nil, lk, scp, scpL, scpO, resF, resH, resO, resV, resVL, nth, Nat.reduceBEq, Nat.reduceLT, decide_true, decide_false, List.length, List.length_cons, List.length_nil, Nat.reduceAdd, Bool.and_self, Bool.and_true, and_true, true_and, numF] <;> try simp)) (by (simp only [setn, List.nil_append, List.cons_append, leF, leH_nil, leH_cons, leF_nil, lk, scp, scpL, scpO, resF, resH, resO, resV, resVL, nth, Nat.reduceBEq, Nat.reduceLT, decide_true, decide_false, List.length, List.length_cons, List.length_nil, Nat.reduceAdd, Bool.and_self, Bool.and_true, and_true, true_and, numF] <;> try simp))⟩
 case round =>
  rintro i ⟨hi, hno⟩ I again
  (refine Y_go 600 ?_; dsimp only [zq9y, t60n3, T60n3, zq9r, zq9q, Y_k, zq50, zq8o, zq6n, Nat.reduceBEq, zq6l, zq6k, zq04, zq92, zq9b, zq0i, zq9e, YK, zq8t, zq9i, normF, zq6m, zq86, zq87, zq8c, t60n2, T60n2, zq9s, zq6h, zq8x, YC, zq9p, t60n1, T60n1, zq9t, zq4u, zq89, t60n0, T60n0, zq5c, zq1o, nth, zq1k, List.length_cons, List.length_nil, Nat.reduceAdd, dropL, takeL, zq19, zq18, zq5i, zq29, zq5a, zq14, zq4w, zq0e, zq58, zq06, zq0x, zq9k, zq9u, popTo, zq6i, YP, zqa3])
  refine ⟨fun hlt => ?_, fun hge => ?_⟩
  rotate_left
  ·have hie : i = c.ways := by have := of_decide_eq_false hge; omega
   subst hie
   exact stop _ rfl (by rw [hat]; exact hno)
  have hlt : i < c.ways := by have := of_decide_eq_true hlt; omega
  have hfi := hfr hlt
  refine ⟨((c.from (L : Int) + i : Nat) : Int), ArOk.to (by omega) (by omega) (by omega), ⟨by omega, by omega⟩, ?_⟩
  rw [Int.toNat_natCast, Nat.zero_add]
  have hnx : atTo c (L : Int) (i + 1) = if hitB L (c.sl (c.from (L : Int) + i)) then some (c.from (L : Int) + i) else none := by simp only [atTo]; rw [hno]
  have hadd : ArOk .add .i64 (i : Int) 1 ((i + 1 : Nat) : Int) := ArOk.to (by omega) (by omega) (by omega)
  have hgo : atTo c (L : Int) (i + 1) = none → ∀ (a : Act) (W : World), Rep ⟨b0, N, st, 42, []⟩ { F := [(0, .val (.func (.yield lo) #[] #[])), (1, .ptr 4 0), (2, .ptr 5 0), (4, .val (.int .i64 (c.from (L : Int) : Nat))), (26, .val (.int .i64 c.ways)), (27, .val (.int .i64 ((i + 1 : Nat) : Int)))], H := [.cells gc 66 [.val (.int .i64 c.sets), .val (.int .i64 c.ways), .slc 1 0 c.n c.n, .val (.int .i64 c.uses)], .row gs 44 (slV c.n c.sl), .cells gl 3 [.val (.int .i64 (L : Int))], .cells gr 70 [.val (.pointer none)], .cells g1 26 [.ptr 0 0], .cells g2 3 [.val (.int .i64 (L : Int))], .obj D (.deferred (some [])), .obj lo (.loop rec)] } a W → I a W := fun h1 a W rep => again (i + 1) ⟨hlt, h1⟩ (by omega) a W rep
  have hyes : atTo c (L : Int) (i + 1) = some (c.from (L : Int) + i) → atV gs c (L : Int) = .pointer (some ⟨gs, (c.from (L : Int) + i) * 21, none⟩) := fun h1 => by
   unfold atV; rw [hat, atTo_some h1 hlt]
  generalize c.from (L : Int) + i = j at hfi hnx hyes ⊢
  have c0 := slV_at (n := c.n) (f := c.sl) (k := 0) hfi rfl
  have c1 := slV_at (n := c.n) (f := c.sl) (k := 1) hfi rfl
  generalize c.sl j = e at c0 c1 hnx
  refine yield_rule (C' := cxOf Try.prog Try.f60 K60 T60 R') (E := ⟨b0, N, st, 24, []⟩) (i := 7) (rec := rec) (lno := lo) (keep := K40) ?_ ?_ ?_ hrec ?_ ?_ ?_ ?_ ?_ ?_
  ·rfl
  ·rfl
  ·rfl
  ·simp
  ·rfl
  ·rfl
  ·rfl
  ·exact extB_spec (by simp [extB, SO.blk, bump])
  intro J Q' hQ' hbeg hnorm hjmp
  have hF : NoPanic (fun _ _ _ => False) := fun _ _ _ h => h
  (refine Y_round hF 600 ?_; dsimp only [evL, zq8o, zq6n, Nat.reduceBEq, zq6k, setPs, zq9q, Y_k, zq4u, YK, zq8t, zq9i, normF, zq6l, zq6m, zq86, zq8c, zq8j, zq87, zqa2])
  refine lend_rule fun a W rep => hbeg _ _ rfl ?_ a W rep
  (refine Y_round hQ' 600 ?_; dsimp only [setn, zq9y, t40n1, T40n1, zq9t, zq9r, zq9q, Y_k, zq4u, zq8o, zq6n, Nat.reduceBEq, zq6l, zq6k, YK, zq8t, zq5i, zq29, zq5a, zq14, zq5c, zq1o, nth, zq1l, zq1c, List.nil_append, zq1b, zq18, zq50, zq8p, zq6q, zq04, zq92, zq9b, zq0i, zq9d, Y_gk, zq6d, YR, zq69, Nat.add_zero, zq1k, List.length_cons, List.length_nil, Nat.reduceAdd, dropL, takeL, zq19, zq9c, zq4v, zq6p, zq0b, zq9i, normF, zq87, zq8c, zq8j, zq9s, zq6h, zq8x, YC, t40n0, T40n0, zq5d, zq7y, zq7k, zq0a, zq1x, zq1t, zq1r, splice, zq8s, zq89, zq9x, zq9p, zqa1, zqa3, YS, zq6b, zq0c, zq8a, zq6g])
  refine ⟨e.st, c1, fun h1 => ⟨e.line, c0, fun h2 => ?_, fun h2 => ?_⟩, fun h1 => ?_⟩
  ·have hhit : hitB (L : Int) e = true := by unfold hitB; rw [h1, h2]; rfl
   have hval := hyes (by rw [hnx, if_pos hhit])
   have leave : RetG (cxR Try.prog K40 T40 lo Q') ⟨b0, N, st, 24, []⟩ { F := [], H := [.cells gc 66 [.val (.int .i64 c.sets), .val (.int .i64 c.ways), .slc 1 0 c.n c.n, .val (.int .i64 c.uses)], .row gs 44 (slV c.n c.sl), .cells gl 3 [.val (.int .i64 (L : Int))], .cells gr 70 [.ptr 1 (j * 21)], .cells g1 26 [.ptr 0 0], .cells g2 3 [.val (.int .i64 (L : Int))], .obj D (.deferred (some [])), .obj lo (.loop { rec with state := .busy })] } := by
    refine fun a W rep => hjmp .ret _ rfl (extB_spec (by simp [extB, SO.blk, bump])) ?_ [] a W rep
    (refine Y_go 600 ?_; dsimp only [zq8t, setn, Y_k, zq53, zq8o, zq6n, Nat.reduceBEq, zq6k, zq0n, YK, zq9i, normF, zq6l, zq6m, zq89, zq87, zq86, zq8c, zq9s, zq6f, YC, zq9x])
    refine ret_rule (vs := []) r60 rfl rfl fun W hW => ?_
    refine hjump .ret _ _ W ?_ (extB_spec ?_) (HeapOk.env (E := ⟨b0, N, st, 42, []⟩) (E' := ⟨b0, N, st, 24, []⟩) rfl rfl rfl hW) ?_
    ·rfl
    ·simp [extB, SO.blk, bump]
    (refine Y_goM 600 ?_; dsimp only [List.length_cons, List.length_nil, Nat.reduceAdd, setn])
    refine ret_rvm (vs := [.pointer (some ⟨gs, j * 21, none⟩)]) 6 r40 rfl rfl rfl fun W hW => ?_
    exact fin _ W _ 24 _ hval.symm (HeapOk.env (E := ⟨b0, N, st, 24, [D]⟩) (E' := ⟨b0, N, st, 24, []⟩) rfl rfl rfl hW)
   exact fun a W rep => leave a W (rep.le (by (simp only [setn, List.nil_append, List.cons_append, leF, leH_nil, leH_cons, leF_nil, lk, scp, scpL, scpO, resF, resH, resO, resV, resVL, nth, Nat.reduceBEq, Nat.reduceLT, decide_true, decide_false, List.length, List.length_cons, List.length_nil, Nat.reduceAdd, Bool.and_self, Bool.and_true, and_true, true_and, numF] <;> try simp)) (by (simp only [setn, List.nil_append, List.cons_append, leF, leH_nil, leH_cons, leF_nil, lk, scp, scpL, scpO, resF, resH, resO, resV, resVL, nth, Nat.reduceBEq, Nat.reduceLT, decide_true, decide_false, List.length, List.length_cons, List.length_nil, Nat.reduceAdd, Bool.and_self, Bool.and_true, and_true, true_and, numF] <;> try simp)))
  all_goals
   have hno2 : atTo c (L : Int) (i + 1) = none := by
    rw [hnx, if_neg]
    unfold hitB
    first | (rw [h1, h2]; simp) | (rw [h1]; simp)
   refine stop_rule fun a W rep => hnorm _ rfl (extB_spec (by simp [extB, SO.blk, bump])) ?_ _ a W rep
   (refine Y_go 600 ?_; dsimp only [zq8t, setn, Y_k, zq53, zq8o, zq6n, Nat.reduceBEq, zq6k, zq0m, YK, zq9i, normF, zq6l, zq6m, zq8a, zq89, zq87, zq86, zq8c, zq9s, zq6g, YC, zq9p, zqa1, zq9q, zq4w, zq8p, zq6q, zq04, zq92, zq9b, zq0e, zq4u, zqa2])
   exact ⟨_, hadd, lend_rule fun a W rep => hgo hno2 a W (rep.le (by (simp only [setn, List.nil_append, List.cons_append, leF, leH_nil, leH_cons, leF_nil, lk, scp, scpL, scpO, resF, resH, resO, resV, resVL, nth, Nat.reduceBEq, Nat.reduceLT, decide_true, decide_false, List.length, List.length_cons, List.length_nil, Nat.reduceAdd, Bool.and_self, Bool.and_true, and_true, true_and, numF] <;> try simp)) (by (simp only [setn, List.nil_append, List.cons_append, leF, leH_nil, leH_cons, leF_nil, lk, scp, scpL, scpO, resF, resH, resO, resV, resVL, nth, Nat.reduceBEq, Nat.reduceLT, decide_true, decide_false, List.length, List.length_cons, List.length_nil, Nat.reduceAdd, Bool.and_self, Bool.and_true, and_true, true_and, numF] <;> try simp)))⟩
end Go.Proofs.Ytimmobbginjkfaa
namespace Go.Proofs.Ytimmobbginjkfaa
open Go Go.Sx Go.Ca
set_option maxRecDepth 100000
theorem call_at {C : Cx} {E : Env} {d : Option Nat} {args : List Operand} {l : List XS} {k : List KI} {F : List (Nat × SV)} (gc gs : Nat) (c : Ca) (ok : CaOk c) (line : Int) (r : List SO) (hP : C.P = Try.prog) (hargs : denL (caF gc gs c ++ r) (evL F args) = some [.pointer (some ⟨gc, 0, none⟩), .int .i64 line])
  (yes : ∀ j, atC c line = some j → G C E (.ops l :: k) { F := putF F d (.ptr 1 (j * 21)), H := caF gc gs c ++ r }) (no : atC c line = none → G C E (.ops l :: k) { F := putF F d (.val (.pointer none)), H := caF gc gs c ++ r }) :
  G C E (.ops ({ dst := d, guard := none, i := .call 40 args } :: l) :: k) { F := F, H := caF gc gs c ++ r } := by
 refine call_lent (H1 := caF gc gs c) (r := r) (fun v H1' => v = atV gs c line ∧ H1' = caF gc gs c) (caF_scp gc gs c) hargs (fun W hW hh => ?_) fun v H1' hv => ?_
 ·rw [hP]
  exact (at40 gc gs c ok line hh).mono fun v W' hv => ⟨_, ⟨hv.1, rfl⟩, HExt.refl _, rfl, hv.2⟩
 obtain ⟨rfl, rfl⟩ := hv
 unfold atV
 cases h : atC c line with
 | some j => exact ⟨.ptr 1 (j * 21), by simp [Is, caF, blk, nth, SO.blk], yes j h⟩
 | none => exact ⟨.val (.pointer none), by simp [Is], no h⟩
def inC (c : Ca) (line state : Int) : Option Nat := match atC c line with
 | some j => if state != 0 && (c.sl j).st != state then none else some j
 | none => none
def inV (gs : Nat) (c : Ca) (line state : Int) : Value := match inC c line state with
 | some j => .tuple #[.pointer (some ⟨gs, j * 21, none⟩), .int .i64 0]
 | none => .tuple #[.pointer none, .int .i64 20]
theorem in28 {E0 : Env} {W : World} (gc gs : Nat) (c : Ca) (ok : CaOk c) (line state : Int) (hW : HeapOk E0 (caF gc gs c) W) :
  CallsV Try.prog 28 [.pointer (some ⟨gc, 0, none⟩), .int .i64 line, .int .i64 state] W fun v W' => v = inV gs c line state ∧ HeapOk E0 (caF gc gs c) W' := by
 obtain ⟨b0, N, st, nt0, mk0⟩ := E0
 refine calls_lent (keep := K28) (nt := 29) (svs := [.ptr 0 0, .val (.int .i64 line), .val (.int .i64 state)]) Try.func28 x28 n28 (by simp) hW (by simp [IsL, Is, caF, blk, nth, SO.blk]) fun R hR => ?_
 have fin : ∀ (v : Value) (W : World) (r : List SO), v = inV gs c line state → HeapOk ⟨b0, N, st, 29, []⟩ (caF gc gs c ++ r) W → R v W := fun v W r hv hW => hR _ _ ⟨hv, HeapOk.env (E := ⟨b0, N, st, 29, []⟩) (E' := ⟨b0, N, st, nt0, mk0⟩) rfl rfl rfl (hW.pre (caF_pre gc gs c))⟩
 (refine Y_go 600 ?_; dsimp only [X28, numF, Nat.reduceAdd, caF, zq9r, zq9q, Y_k, zq4u, zq8p, zq6t, YK, zq8t, zq6q, zq9i, normF, zq6n, Nat.reduceBEq, zq6l, zq6k, zq6m, zq86, zq87, zq8c, zq9y, t28n5, T28n5, zq8o, zq5t, zq3s, zq3q, zq9s, zq6h, zq8x, YC, t28n0, T28n0, zq89, zq9x, zq9p, t28n4, T28n4, zq9j])
 refine ⟨fun h => absurd h (by decide), fun _ => ?_⟩
 refine call_at gc gs c ok line [] rfl rfl (fun j hj => ?_) (fun hno => ?_)
 ·dsimp only [zq8t, caF, List.cons_append, List.nil_append]
  (refine Y_go 600 ?_; dsimp only [Y_k, zq4u, zq8o, zq6n, Nat.reduceBEq, zq6k, YK, zq8t, zq9i, normF, zq6l, zq6m, zq86, zq8a, zq8c, zq87, zq9y, t28n3, T28n3, zq9r, zq9q, zq5t, zq3s, zq3q, Y_gk, zq6e, YS, zq6a, zq02, zq4v, zq8p, zq6o, zq0b, zq89, zq9s, zq6f, YC, t28n1, T28n1, zq6t, zq6q, zq9x, YR, zq6c, zq50, zq04, zq92, zq9b, zq0i, zq9d, zq6d, zq69, zq5i, zq29, zq5a, zq14, zq5c, zq1o, nth, zq1l, zq1c, List.nil_append, zq1b, zq18, zq6p, zq0c, zq6h, zq8x, zq9p, t28n2, T28n2, zq6b, zq6g])
  obtain ⟨hjn, _⟩ := atC_lt ok hj
  have yes : inC c line state = some j → R (.tuple #[.pointer (some ⟨gs, j * 21, none⟩), .int .i64 0]) = R (inV gs c line state) := fun h => by unfold inV; rw [h]
  have nov : inC c line state = none → inV gs c line state = .tuple #[.pointer none, .int .i64 20] := fun h => by unfold inV; rw [h]
  have yev : inC c line state = some j → inV gs c line state = .tuple #[.pointer (some ⟨gs, j * 21, none⟩), .int .i64 0] := fun h => by unfold inV; rw [h]
  have hin : inC c line state = if state != 0 && (c.sl j).st != state then none else some j := by unfold inC; rw [hj]
  refine ⟨fun h => absurd h (by decide), fun _ => ⟨fun h1 => ⟨(c.sl j).st, slV_at (k := 1) hjn rfl, fun h2 => ?_, fun h2 => ?_⟩, fun h1 => ?_⟩⟩
  ·exact ret_rule (vs := [.pointer none, .int .i64 20]) r28 rfl rfl fun W hW => fin _ W [] (nov (by rw [hin, h1, h2]; rfl)).symm hW
  ·exact ret_rule (vs := [.pointer (some ⟨gs, j * 21, none⟩), .int .i64 0]) r28 rfl rfl fun W hW => fin _ W [] (yev (by rw [hin, h1, h2]; rfl)).symm hW
  ·exact ret_rule (vs := [.pointer (some ⟨gs, j * 21, none⟩), .int .i64 0]) r28 rfl rfl fun W hW => fin _ W [] (yev (by rw [hin, h1]; rfl)).symm hW
 ·dsimp only [zq8t, caF, List.cons_append, List.nil_append]
  (refine Y_go 600 ?_; dsimp only [Y_k, zq4u, zq8o, zq6n, Nat.reduceBEq, zq6k, YK, zq8t, zq9i, normF, zq6l, zq6m, zq86, zq8a, zq87, zq8c, zq9y, t28n3, T28n3, zq9r, zq9q, zq5t, zq3u, zq3q, Y_gk, zq6e, YS, zq6a, zq02, zq4v, zq8p, zq6o, zq0b, zq89, zq9s, zq6f, YC, t28n1, T28n1, zq6t, zq6q, zq9x, YR, zq6c, zq50, zq04, zq92, zq9b, zq0i, zq9d, zq6d, zq69, zq5i, zq6b, zq6p, zq0c, zq6g, zq9p, t28n2, T28n2])
  refine ⟨fun _ => ?_, fun h => absurd h (by decide)⟩
  exact ret_rule (vs := [.pointer none, .int .i64 20]) r28 rfl rfl fun W hW => fin _ W [] (by unfold inV inC; rw [hno]; rfl) hW
theorem inC_lt {c : Ca} (ok : CaOk c) {line state : Int} {j : Nat} (h : inC c line state = some j) : j < c.n := by
 unfold inC at h
 split at h
 ·rename_i k hk
  split at h
  ·cases h
  ·injection h with h; subst h; exact (atC_lt ok hk).1
 ·cases h
theorem call_in {C : Cx} {E : Env} {d : Option Nat} {args : List Operand} {l : List XS} {k : List KI} {F : List (Nat × SV)} (gc gs : Nat) (c : Ca) (ok : CaOk c) (line state : Int) (r : List SO) (hP : C.P = Try.prog) (hargs : denL (caF gc gs c ++ r) (evL F args) = some [.pointer (some ⟨gc, 0, none⟩), .int .i64 line, .int .i64 state])
  (yes : ∀ j, inC c line state = some j → G C E (.ops l :: k) { F := putF F d (.tup [.ptr 1 (j * 21), .val (.int .i64 0)]), H := caF gc gs c ++ r }) (no : inC c line state = none → G C E (.ops l :: k) { F := putF F d (.tup [.val (.pointer none), .val (.int .i64 20)]), H := caF gc gs c ++ r }) :
  G C E (.ops ({ dst := d, guard := none, i := .call 28 args } :: l) :: k) { F := F, H := caF gc gs c ++ r } := by
 refine call_lent (H1 := caF gc gs c) (r := r) (fun v H1' => v = inV gs c line state ∧ H1' = caF gc gs c) (caF_scp gc gs c) hargs (fun W hW hh => ?_) fun v H1' hv => ?_
 ·rw [hP]
  exact (in28 gc gs c ok line state hh).mono fun v W' hv => ⟨_, ⟨hv.1, rfl⟩, HExt.refl _, rfl, hv.2⟩
 obtain ⟨rfl, rfl⟩ := hv
 unfold inV
 cases h : inC c line state with
 | some j => exact ⟨.tup [.ptr 1 (j * 21), .val (.int .i64 0)], by simp [Is, IsL, caF, blk, nth, SO.blk], yes j h⟩
 | none => exact ⟨.tup [.val (.pointer none), .val (.int .i64 20)], by simp [Is, IsL], no h⟩
theorem slV_setn {n i k : Nat} {f : Nat → En} {u : Value} {e : En} (hi : i < n) (hk : k < 21) (he : setn (enV (f i)) k u = enV e) : setn (slV n f) (i * 21 + k) u = slV n (upd f i e) :=
 slV_splice (us := [u]) hi (by show k + 1 ≤ 21; omega) he
def useC (c : Ca) (j : Nat) : Ca := { c with uses := c.uses + 1, sl := upd c.sl j { c.sl j with used := c.uses + 1 } }
theorem use29 {E0 : Env} {W : World} (gc gs : Nat) (c : Ca) (ok : CaOk c) (j : Nat) (hj : j < c.n) (hW : HeapOk E0 (caF gc gs c) W) :
  CallsV Try.prog 29 [.pointer (some ⟨gc, 0, none⟩), .pointer (some ⟨gs, j * 21, none⟩)] W fun v W' => v = .tuple #[] ∧ HeapOk E0 (caF gc gs (useC c j)) W' := by
 obtain ⟨b0, N, st, nt0, mk0⟩ := E0
 refine calls_lent (keep := K29) (nt := 18) (svs := [.ptr 0 0, .ptr 1 (j * 21)]) Try.func29 x29 n29 (by simp) hW (by simp [IsL, Is, caF, blk, nth, SO.blk]) fun R hR => ?_
 have hu0 := ok.u0
 have hu1 := ok.u1
 (refine Y_go 600 ?_; dsimp only [X29, numF, Nat.reduceAdd, caF, zq9r, zq9q, Y_k, zq4u, zq8o, zq6n, Nat.reduceBEq, zq6k, YK, zq8t, zq5i, zq29, zq5a, zq14, zq5c, zq1o, nth, zq1k, List.length_cons, List.length_nil, dropL, takeL, zq19, zq18, zq4w, zq8p, zq6q, zq04, zq92, zq9b, zq0e, zq6l, zq5d, zq7u, zq73, zq0a, zq1x, zq1t, zq1r, splice, setn, zq8s, zq9i, normF, zq8c, zq9y, t29n0, T29n0, zq1u, denL, den, zq1s, zqa3])
 refine ⟨c.uses + 1, ArOk.to rfl (by omega) (by omega), by rw [slV_len]; omega, ?_⟩
 rw [slV_setn hj (by decide) (e := { c.sl j with used := c.uses + 1 }) rfl]
 exact ret_rule (keep := K29) (tab := T29) (vs := []) r29 rfl rfl fun W hW => hR _ _ ⟨rfl, HeapOk.env (E := ⟨b0, N, st, 18, []⟩) (E' := ⟨b0, N, st, nt0, mk0⟩) rfl rfl rfl hW⟩
theorem call_use {C : Cx} {E : Env} {d : Option Nat} {args : List Operand} {l : List XS} {k : List KI} {F : List (Nat × SV)} (gc gs : Nat) (c : Ca) (ok : CaOk c) (j : Nat) (hj : j < c.n) (r : List SO) (hP : C.P = Try.prog) (hargs : denL (caF gc gs c ++ r) (evL F args) = some [.pointer (some ⟨gc, 0, none⟩), .pointer (some ⟨gs, j * 21, none⟩)])
  (next : G C E (.ops l :: k) { F := putF F d (.tup []), H := caF gc gs (useC c j) ++ r }) :
  G C E (.ops ({ dst := d, guard := none, i := .call 29 args } :: l) :: k) { F := F, H := caF gc gs c ++ r } := by
 refine call_lent (H1 := caF gc gs c) (r := r) (fun v H1' => v = .tuple #[] ∧ H1' = caF gc gs (useC c j)) (caF_scp gc gs c) hargs (fun W hW hh => ?_) fun v H1' hv => ?_
 ·rw [hP]
  exact (use29 gc gs c ok j hj hh).mono fun v W' hv => ⟨_, ⟨hv.1, rfl⟩, caF_ext gc gs c _, rfl, hv.2⟩
 obtain ⟨rfl, rfl⟩ := hv
 exact ⟨.tup [], by simp [Is, IsL], next⟩
def dV (d : Nat → Int) : List Value := [.int .u64 (d 0), .int .u64 (d 1), .int .u64 (d 2), .int .u64 (d 3), .int .u64 (d 4), .int .u64 (d 5), .int .u64 (d 6), .int .u64 (d 7)]
def quo8 (a : Int) : Int := IntKind.i64.wrap (a.tdiv 8)
theorem quo8_ok (a : Int) : DivOk .quo .i64 a 8 (quo8 a) := ⟨by decide, rfl⟩
theorem d_at (e : En) : ∀ {m : Nat}, m < 8 → (enV e)[4 + m]? = some (.int .u64 (e.d m))
 | 0, _ => rfl
 | 1, _ => rfl
 | 2, _ => rfl
 | 3, _ => rfl
 | 4, _ => rfl
 | 5, _ => rfl
 | 6, _ => rfl
 | 7, _ => rfl
 | m + 8, h => by omega
def putD (d : Nat → Int) (m : Nat) (v : Int) : Nat → Int := fun k => if k = m then v else d k
theorem d_set (e : En) (v : Int) : ∀ {m : Nat}, m < 8 → setn (enV e) (4 + m) (.int .u64 v) = enV { e with d := putD e.d m v }
 | 0, _ => rfl
 | 1, _ => rfl
 | 2, _ => rfl
 | 3, _ => rfl
 | 4, _ => rfl
 | 5, _ => rfl
 | 6, _ => rfl
 | 7, _ => rfl
 | m + 8, h => by omega
theorem CaOk.use {c : Ca} (ok : CaOk c) (h : c.uses + 1 ≤ 1000000) (j : Nat) : CaOk (useC c j) := ⟨ok.s1, ok.s8, ok.w1, ok.w4, by have := ok.u0; show 0 ≤ c.uses + 1; omega, h⟩
def wordC (c : Ca) (a : Int) : Ca := if a < 0 then c else match inC c (quo8 a) 0 with
 | some j => useC c j
 | none => c
def wordV (c : Ca) (a : Int) : Value := if a < 0 then .tuple #[.int .u64 0, .int .i64 2] else match inC c (quo8 a) 0 with
 | some j => .tuple #[.int .u64 ((c.sl j).d (a % 8).toNat), .int .i64 0]
 | none => .tuple #[.int .u64 0, .int .i64 20]
def putC (c : Ca) (a v : Int) : Ca := if a < 0 then c else match inC c (quo8 a) 2 with
 | some j => { useC c j with sl := upd (useC c j).sl j { (useC c j).sl j with d := putD (c.sl j).d (a % 8).toNat v } }
 | none => c
def putV (c : Ca) (a : Int) : Value := if a < 0 then .int .i64 2 else match inC c (quo8 a) 2 with
 | some _ => .int .i64 0
 | none => .int .i64 20
def markC (c : Ca) (line : Int) (w : Bool) : Ca := if w then (match inC c line 2 with
  | some j => if (c.sl j).wr then c else { c with sl := upd c.sl j { c.sl j with wr := true, o := (c.sl j).d } }
  | none => c) else match inC c line 0 with
 | some j => { c with sl := upd c.sl j { c.sl j with rd := true } }
 | none => c
def inE (c : Ca) (line st : Int) : Int := match inC c line st with
 | some _ => 0
 | none => 20
def markV (c : Ca) (line : Int) (w : Bool) : Value := .int .i64 (inE c line (if w then 2 else 0))
def demC (c : Ca) (line : Int) : Ca := match inC c line 2 with
 | some j => { c with sl := upd c.sl j { c.sl j with st := 1 } }
 | none => c
def demV (c : Ca) (line : Int) : Value := match inC c line 2 with
 | some j => .tuple #[.agg (dV (c.sl j).d).toArray, .int .i64 0]
 | none => .tuple #[.agg (dV zF).toArray, .int .i64 20]
def proC (c : Ca) (line : Int) (d : Nat → Int) : Ca := match inC c line 1 with
 | some j => { c with sl := upd c.sl j { c.sl j with st := 2, d := d } }
 | none => c
def dropC (c : Ca) (line : Int) : Ca := match inC c line 0 with
 | some j => { c with sl := upd c.sl j zE }
 | none => c
def dropV (c : Ca) (line : Int) : Value := match inC c line 0 with
 | some j => .tuple #[.agg (enV (c.sl j)).toArray, .int .i64 0]
 | none => .tuple #[.agg (enV zE).toArray, .int .i64 20]
def findV (c : Ca) (line : Int) : Value := match atC c line with
 | some j => .tuple #[.agg (enV (c.sl j)).toArray, .bool true]
 | none => .tuple #[.agg (enV zE).toArray, .bool false]
theorem upd_upd (f : Nat → En) (i : Nat) (a b : En) : upd (upd f i a) i b = upd f i b := by
 funext j; unfold upd; split <;> rfl
theorem word14 {E0 : Env} {W : World} (gc gs : Nat) (c : Ca) (ok : CaOk c) (a : Int) (hW : HeapOk E0 (caF gc gs c) W) :
  CallsV Try.prog 14 [.pointer (some ⟨gc, 0, none⟩), .int .i64 a] W fun v W' => v = wordV c a ∧ HeapOk E0 (caF gc gs (wordC c a)) W' := by
 obtain ⟨b0, N, st, nt0, mk0⟩ := E0
 refine calls_lent (keep := K14) (nt := 34) (svs := [.ptr 0 0, .val (.int .i64 a)]) Try.func14 x14 n14 (by simp) hW (by simp [IsL, Is, caF, blk, nth, SO.blk, dV, enV]) fun R hR => ?_
 have fin : ∀ (v : Value) (c' : Ca) (W : World) (r : List SO), v = wordV c a → c' = wordC c a → HeapOk ⟨b0, N, st, 34, []⟩ (caF gc gs c' ++ r) W → R v W := fun v c' W r hv hc hW => hR _ _ ⟨hv, by rw [← hc]; exact HeapOk.env (E := ⟨b0, N, st, 34, []⟩) (E' := ⟨b0, N, st, nt0, mk0⟩) rfl rfl rfl (hW.pre (caF_pre gc gs c'))⟩
 (refine Y_go 600 ?_; dsimp only [X14, numF, Nat.reduceAdd, caF, zq9r, zq9q, Y_k, zq4u, zq8p, zq6q, YK, zq8t, zq9i, normF, zq6n, Nat.reduceBEq, zq6l, zq6k, zq6m, zq86, zq87, zq8c, zq9y, t14n6, T14n6, zq8o, zq5t, zq3s, zq3p, Y_gk, zq6d, YR, zq69, zq50, zq04, zq92, zq9b, zq0i, zq9e, zq4v, zq6p, zq0b, zq9s, zq6h, zq8x, YC, t14n0, T14n0, zq89, zq9x, zq9p, t14n5, T14n5, zq4x, zq0f, zq9j, YS, zq6b, zq0c, zq8a, zq6g])
 refine ⟨fun _ => ⟨fun h1 => ?_, fun h1 => ⟨_, quo8_ok a, ?_⟩⟩, fun h => absurd h (by decide)⟩
 ·have h1 := of_decide_eq_true h1
  exact ret_rule (vs := [.int .u64 0, .int .i64 2]) r14 rfl rfl fun W hW => fin _ c W [] (by unfold wordV; rw [if_pos h1]; rfl) (by unfold wordC; rw [if_pos h1]) hW
 have h1 := of_decide_eq_false h1
 refine call_in gc gs c ok (quo8 a) 0 [] rfl rfl (fun j hj => ?_) (fun hno => ?_)
 ·have hjn := inC_lt ok hj
  have hv : wordV c a = .tuple #[.int .u64 ((c.sl j).d (a % 8).toNat), .int .i64 0] := by unfold wordV; rw [if_neg h1, hj]
  have hc : wordC c a = useC c j := by unfold wordC; rw [if_neg h1, hj]
  dsimp only [zq8t, caF, List.cons_append, List.nil_append]
  (refine Y_go 600 ?_; dsimp only [Y_k, zq4u, zq8o, zq6n, Nat.reduceBEq, zq6k, YK, zq8t, zq5j, zq2f, nth, zq2e, zq6l, zq9i, normF, zq6m, zq86, zq8a, zq87, zq8c, zq9y, t14n4, T14n4, zq9r, zq9q, zq50, zq8p, zq6q, zq04, zq92, zq9b, zq0i, zq9d, zq9s, zq6h, zq8x, YC, t14n1, T14n1, zq89, zq9x, zq9p, t14n3, T14n3, zq9j])
  refine ⟨fun h => absurd h (by decide), fun _ => ?_⟩
  refine call_use gc gs c ok j hjn [] rfl rfl ?_
  dsimp only [zq8t, caF, List.cons_append, List.nil_append]
  (refine Y_go 600 ?_; dsimp only [zq9i, normF, zq6n, Nat.reduceBEq, zq6l, zq6k, zq8a, zq87, zq8c, zq9y, t14n2, T14n2, zq9r, zq9q, Y_k, zq4u, zq8o, YK, zq8t, zq4x, zq8p, zq6q, zq04, zq92, zq9b, zq0f, zq5i, zq29, zq5a, zq14, zq59, zq06, zq10, zq5c, zq1o, nth, zq1l, zq1c, List.nil_append, zq1b, zq18, zq9x])
  have hm : (a % 8).toNat < 8 := by omega
  refine ⟨_, DivOk.rem_nn (by omega) (by decide), ⟨by omega, by omega⟩, (c.sl j).d (a % 8).toNat, ?_, ?_⟩
  ·rw [Nat.mul_one, Nat.add_assoc]
   refine slV_at hjn ?_
   rw [d_at _ hm]
   simp [useC, upd]
  ·exact ret_rule (vs := [.int .u64 ((c.sl j).d (a % 8).toNat), .int .i64 0]) r14 rfl rfl fun W hW => fin _ (useC c j) W [] hv.symm hc.symm hW
 ·dsimp only [zq8t, caF, List.cons_append, List.nil_append]
  (refine Y_go 600 ?_; dsimp only [Y_k, zq4u, zq8o, zq6n, Nat.reduceBEq, zq6k, YK, zq8t, zq5j, zq2f, nth, zq2e, zq6l, zq9i, normF, zq6m, zq86, zq8a, zq87, zq8c, zq9y, t14n4, T14n4, zq9r, zq9q, zq50, zq8p, zq6q, zq04, zq92, zq9b, zq0i, zq9d, zq9s, zq6h, zq8x, YC, t14n1, T14n1, zq89, zq9x, zq9p, t14n3, T14n3, zq9j])
  refine ⟨fun _ => ?_, fun h => absurd h (by decide)⟩
  exact ret_rule (vs := [.int .u64 0, .int .i64 20]) r14 rfl rfl fun W hW => fin _ c W [] (by unfold wordV; rw [if_neg h1, hno]; rfl) (by unfold wordC; rw [if_neg h1, hno]) hW
theorem put13 {E0 : Env} {W : World} (gc gs : Nat) (c : Ca) (ok : CaOk c) (a u : Int) (hW : HeapOk E0 (caF gc gs c) W) :
  CallsV Try.prog 13 [.pointer (some ⟨gc, 0, none⟩), .int .i64 a, .int .u64 u] W fun v W' => v = putV c a ∧ HeapOk E0 (caF gc gs (putC c a u)) W' := by
 obtain ⟨b0, N, st, nt0, mk0⟩ := E0
 refine calls_lent (keep := K13) (nt := 35) (svs := [.ptr 0 0, .val (.int .i64 a), .val (.int .u64 u)]) Try.func13 x13 n13 (by simp) hW (by simp [IsL, Is, caF, blk, nth, SO.blk, dV, enV]) fun R hR => ?_
 have fin : ∀ (v : Value) (c' : Ca) (W : World) (r : List SO), v = putV c a → c' = putC c a u → HeapOk ⟨b0, N, st, 35, []⟩ (caF gc gs c' ++ r) W → R v W := fun v c' W r hv hc hW => hR _ _ ⟨hv, by rw [← hc]; exact HeapOk.env (E := ⟨b0, N, st, 35, []⟩) (E' := ⟨b0, N, st, nt0, mk0⟩) rfl rfl rfl (hW.pre (caF_pre gc gs c'))⟩
 (refine Y_go 600 ?_; dsimp only [X13, numF, Nat.reduceAdd, caF, zq9r, zq9q, Y_k, zq4u, zq8p, zq6q, YK, zq8t, zq9i, normF, zq6n, Nat.reduceBEq, zq6l, zq6k, zq6m, zq86, zq87, zq8c, zq9y, t13n7, T13n7, zq8o, zq5t, zq3s, zq3p, Y_gk, zq6d, YR, zq69, zq50, zq04, zq92, zq9b, zq0i, zq9e, zq4v, zq6p, zq0b, zq9s, zq6h, zq8x, YC, t13n0, T13n0, zq89, zq9x, zq9p, t13n6, T13n6, zq4x, zq0f, zq9j, YS, zq6b, zq0c, zq8a, zq6g])
 refine ⟨fun _ => ⟨fun h1 => ?_, fun h1 => ⟨_, quo8_ok a, ?_⟩⟩, fun h => absurd h (by decide)⟩
 ·have h1 := of_decide_eq_true h1
  exact ret_rule (vs := [.int .i64 2]) r13 rfl rfl fun W hW => fin _ c W [] (by unfold putV; rw [if_pos h1]; rfl) (by unfold putC; rw [if_pos h1]) hW
 have h1 := of_decide_eq_false h1
 refine call_in gc gs c ok (quo8 a) 2 [] rfl rfl (fun j hj => ?_) (fun hno => ?_)
 ·have hjn := inC_lt ok hj
  have hv : putV c a = .int .i64 0 := by unfold putV; rw [if_neg h1, hj]
  have hc : putC c a u = { useC c j with sl := upd (useC c j).sl j { (useC c j).sl j with d := putD (c.sl j).d (a % 8).toNat u } } := by unfold putC; rw [if_neg h1, hj]
  dsimp only [zq8t, caF, List.cons_append, List.nil_append]
  (refine Y_go 600 ?_; dsimp only [Y_k, zq4u, zq8o, zq6n, Nat.reduceBEq, zq6k, YK, zq8t, zq5j, zq2f, nth, zq2e, zq6l, zq9i, normF, zq6m, zq86, zq8a, zq87, zq8c, zq9y, t13n5, T13n5, zq9r, zq9q, zq50, zq8p, zq6q, zq04, zq92, zq9b, zq0i, zq9d, zq9s, zq6h, zq8x, YC, t13n1, T13n1, zq89, zq9x, zq9p, t13n4, T13n4, zq9j])
  refine ⟨fun h => absurd h (by decide), fun _ => ?_⟩
  refine call_use gc gs c ok j hjn [] rfl rfl ?_
  dsimp only [zq8t, caF, List.cons_append, List.nil_append]
  (refine Y_go 600 ?_; dsimp only [zq9i, normF, zq6n, Nat.reduceBEq, zq6l, zq6k, zq8a, zq87, zq8c, zq9y, t13n3, T13n3, zq9r, zq9q, Y_k, zq4u, zq8o, YK, zq8t, zq4x, zq8p, zq6q, zq04, zq92, zq9b, zq0f, zq5i, zq29, zq5a, zq14, zq59, zq06, zq10, zq5d, zq7u, zq73, zq0a, zq1x, nth, zq1u, denL, den, zq1s, splice, setn, zq8s, t13n2, T13n2, zq9x])
  have hm : (a % 8).toNat < 8 := by omega
  have hn : (useC c j).n = c.n := rfl
  refine ⟨_, DivOk.rem_nn (by omega) (by decide), ⟨by omega, by omega⟩, by rw [slV_len, hn]; omega, ?_⟩
  rw [Nat.mul_one, Nat.add_assoc, slV_setn (n := (useC c j).n) hjn (by omega) (d_set ((useC c j).sl j) u hm)]
  refine ret_rule (vs := [.int .i64 0]) r13 rfl rfl fun W hW => fin _ _ W [] hv.symm hc.symm ?_
  have e : (useC c j).sl j = { c.sl j with used := c.uses + 1 } := upd_at _ _ _
  rw [e] at hW ⊢
  exact hW
 ·dsimp only [zq8t, caF, List.cons_append, List.nil_append]
  (refine Y_go 600 ?_; dsimp only [Y_k, zq4u, zq8o, zq6n, Nat.reduceBEq, zq6k, YK, zq8t, zq5j, zq2f, nth, zq2e, zq6l, zq9i, normF, zq6m, zq86, zq8a, zq87, zq8c, zq9y, t13n5, T13n5, zq9r, zq9q, zq50, zq8p, zq6q, zq04, zq92, zq9b, zq0i, zq9d, zq9s, zq6h, zq8x, YC, t13n1, T13n1, zq89, zq9x, zq9p, t13n4, T13n4, zq9j])
  refine ⟨fun _ => ?_, fun h => absurd h (by decide)⟩
  exact ret_rule (vs := [.int .i64 20]) r13 rfl rfl fun W hW => fin _ c W [] (by unfold putV; rw [if_neg h1, hno]; rfl) (by unfold putC; rw [if_neg h1, hno]) hW
end Go.Proofs.Ytimmobbginjkfaa
