/- l1: the slot for a line. -/
import Derived.Test.YtimmobbginjkfaaCaW1
import Derived.Test.YtimmobbginjkfaaCaCode
set_option linter.unusedSimpArgs false
set_option linter.unusedVariables false
set_option linter.unnecessarySimpa false
namespace Go.Proofs.Ytimmobbginjkfaa
open Go Go.Sx Go.Ca
set_option maxRecDepth 100000
def rmS (c : Ca) (j : Nat) (o : Option Nat) : Option Nat × Option Nat :=
 if (c.sl j).st = 0 then (some j, o) else if (c.sl j).rd || (c.sl j).wr then (none, o) else match o with
  | none => (none, some j)
  | some k => if (c.sl j).used < (c.sl k).used then (none, some j) else (none, some k)
def rmTo (c : Ca) (b : Nat) : Nat → Option Nat × Option Nat
 | 0 => (none, none)
 | i + 1 => match rmTo c b i with
  | (some k, o) => (some k, o)
  | (none, o) => rmS c (b + i) o
def roomC (c : Ca) (line : Int) : Option Nat := match rmTo c (c.from line) c.ways with
 | (some k, _) => some k
 | (none, o) => o
def roomV (gs : Nat) (c : Ca) (line : Int) : Value := match roomC c line with
 | some j => .pointer (some ⟨gs, j * 21, none⟩)
 | none => .pointer none
def oSV : Option Nat → SV
 | none => .val (.pointer none)
 | some k => .ptr 1 (k * 21)
theorem rmTo_more {c : Ca} {b i k : Nat} {o : Option Nat} (h : rmTo c b i = (some k, o)) : ∀ {m : Nat}, i ≤ m → rmTo c b m = (some k, o)
 | 0, hm => by
  have : i = 0 := by omega
  subst this; exact h
 | m + 1, hm => by
  by_cases e : i = m + 1
  ·subst e; exact h
  ·simp only [rmTo]; rw [rmTo_more h (m := m) (by omega)]
theorem room41 {E0 : Env} {W : World} (gc gs : Nat) (c : Ca) (ok : CaOk c) (line : Int) (hl : 0 ≤ line) (hW : HeapOk E0 (caF gc gs c) W) :
  CallsV Try.prog 41 [.pointer (some ⟨gc, 0, none⟩), .int .i64 line] W fun v W' => v = roomV gs c line ∧ HeapOk E0 (caF gc gs c) W' := by
 obtain ⟨b0, N, st, nt0, mk0⟩ := E0
 refine calls_lentM (keep := K41) (nt := 42) (svs := [.ptr 0 0, .val (.int .i64 line)]) Try.func41 x41 n41 (by simp) hW (by simp [IsL, Is, caF, blk, nth, SO.blk]) fun R hR => ?_
 have fin : ∀ (v : Value) (W : World) (r : List SO) (nt : Nat) (mk : List Nat), v = roomV gs c line → HeapOk ⟨b0, N, st, nt, mk⟩ (caF gc gs c ++ r) W → R v W := fun v W r nt mk hv hW => hR _ _ ⟨hv, HeapOk.env (E := ⟨b0, N, st, nt, mk⟩) (E' := ⟨b0, N, st, nt0, mk0⟩) rfl rfl rfl (hW.pre (caF_pre gc gs c))⟩
 (refine Y_goM 600 ?_; dsimp only [X41, numF, Nat.reduceAdd, caF, zq9r, zq9q, Y_k, zq5e, List.length_cons, List.length_nil, List.map, zq6t, List.cons_append, List.nil_append, YK, zq8t, zq9i, normF, zq6n, Nat.reduceBEq, zq6l, zq6k, zq6m, zq86, zq8c, zq87, zq9y, t41n8, T41n8, zq9z])
 intro gr
 refine scp_rule (fun _ _ _ h => h) ?_
 (refine Y_goM 600 ?_; dsimp only [zq9r, zq9q, Y_k, zq5e, List.length_cons, List.length_nil, Nat.reduceAdd, List.map, zq6t, List.cons_append, List.nil_append, YK, zq8t, zq9i, normF, zq6n, Nat.reduceBEq, zq6l, zq6k, zq6m, zq86, zq8c, zq87, zqa0, zq9y, t41n7, T41n7, zq4u, zq8o, zq9j])
 intro go
 refine call_rule (vs := [.pointer (some ⟨gc, 0, none⟩), .int .i64 line]) rfl (R := fun W v W' => ∃ g1 g2, v = .func (.func 60) #[] #[.pointer (some ⟨g1, 0, none⟩), .pointer (some ⟨g2, 0, none⟩)] ∧ HeapOk ⟨W, W.heap.size, [], 6, []⟩ [.cells g1 26 [.val (.pointer (some ⟨gc, 0, none⟩))], .cells g2 3 [.val (.int .i64 line)]] W') (fun W hW => set49 _ line W) fun W v W2 hW ⟨g1, g2, hv, hh⟩ => ?_
 refine ⟨.fn (.func 60) [] [.ptr 4 0, .ptr 5 0], [.cells gc 66 [.val (.int .i64 c.sets), .val (.int .i64 c.ways), .slc 1 0 c.n c.n, .val (.int .i64 c.uses)], .row gs 44 (slV c.n c.sl), .cells gr 70 [.val (.pointer none)], .cells go 70 [.val (.pointer none)], .cells g1 26 [.ptr 0 0], .cells g2 3 [.val (.int .i64 line)]], ?_, ?_, ?_, ?_⟩
 ·rw [hv]; simp [Is, IsL, blk, nth, SO.blk]
 ·exact HExt.app [.cells gc 66 [.val (.int .i64 c.sets), .val (.int .i64 c.ways), .slc 1 0 c.n c.n, .val (.int .i64 c.uses)], .row gs 44 (slV c.n c.sl), .cells gr 70 [.val (.pointer none)], .cells go 70 [.val (.pointer none)]] [.cells g1 26 [.ptr 0 0], .cells g2 3 [.val (.int .i64 line)]]
 ·refine heapJoin (H2' := [.cells g1 26 [.ptr 0 0], .cells g2 3 [.val (.int .i64 line)]]) hW hh rfl fun e he => ?_
  simp only [List.mem_cons, List.not_mem_nil, or_false] at he
  rcases he with rfl | rfl
  ·obtain ⟨c, hc, hl⟩ := hh.ent (e := .cells g1 26 [.val (.pointer (some ⟨gc, 0, none⟩))]) (by simp)
   refine ⟨c, hc, ?_⟩
   simp only [IsL, Is, blk, nth, SO.blk] at hl ⊢
   obtain ⟨v, r, rfl, rfl, e⟩ := hl
   exact ⟨_, _, ⟨gc, rfl, rfl⟩, rfl, e⟩
  ·exact (hh.ent (e := .cells g2 3 [.val (.int .i64 line)]) (by simp)).shut rfl
 clear hh hv hW
 (refine Y_goM 600 ?_; dsimp only [zq8t, zq9i, normF, zq6n, Nat.reduceBEq, zq6l, zq6k, zq6m, zq86, zq8j, zq8c, zq87, zq9y, t41n5, T41n5, zq9t, zq9w])
 refine rng_rule rfl rfl (gf := 60) (caps := [.pointer (some ⟨g1, 0, none⟩), .pointer (some ⟨g2, 0, none⟩)]) rfl ok60 ?_
 intro D lo rec hrec R' hend hjump W3 hW3
 refine calls_in (keep := K60) (nt := 42) (E := ⟨b0, N, st, 42, []⟩) (svs := [.val (.func (.yield lo) #[] #[]), .ptr 4 0, .ptr 5 0]) Try.func60 x60 n60 (by simp) hW3 (by simp [IsL, Is, blk, nth, SO.blk]) ?_
 (refine Y_go 600 ?_; dsimp only [X60, numF, Nat.reduceAdd, List.cons_append, List.nil_append, zq9r, zq9q, Y_k, zq5c, zq8o, zq6n, Nat.reduceBEq, zq6l, zq6k, zq1o, nth, zq1k, List.length_cons, List.length_nil, dropL, takeL, zq19, zq18, YK, zq8t, zq5t, zq3s, zq3q, zq4u, Y_gk, zq6e, YS, zq6a, zq4v, zq8p, zq6o, zq0b, zq9i, normF, zq6m, zq86, zq89, zq8c, zq87, zq9s, zq6f, YC, zq9x, YR, zq6c, zq50, zq6q, zq04, zq92, zq9b, zq0i, zq9e, zq0c, zq6h, zq8x, zq9p, zq9y, t60n5, T60n5, zq5i, zq29, zq5a, zq14, Nat.add_zero, zq4x, zq0f, zq4w, zq0e, zq8a, t60n4, T60n4, zq9t, zq9v])
 have hpos : ¬ line < 0 := by omega
 refine ⟨fun h => absurd h (by decide), fun _ => ⟨fun hneg => absurd (of_decide_eq_true hneg) hpos, fun _ => ?_⟩⟩
 obtain ⟨L, rfl⟩ : ∃ L : Nat, (L : Int) = line := ⟨line.toNat, by omega⟩
 have hfr := fun {i : Nat} (hi : i < c.ways) => Ca.from_lt ok (L : Int) hi
 have hn := ok.n32
 have hw := ok.w1
 have hw4 := ok.w4
 have hs1 := ok.s1
 have hf0 := hfr (i := 0) (by omega)
 refine ⟨_, DivOk.rem_nn (by omega) (by omega), _, mulOk (from_eq c L) (by omega) (by omega), ?_⟩
 refine loop_go (α := Nat × Option Nat) (fun q => q.1 ≤ c.ways ∧ rmTo c (c.from L) q.1 = (none, q.2) ∧ ∀ k, q.2 = some k → k < c.n) (fun _ => ⟨b0, N, st, 42, []⟩)
  (fun q => { F := [(0, .val (.func (.yield lo) #[] #[])), (1, .ptr 4 0), (2, .ptr 5 0), (4, .val (.int .i64 (c.from (L : Int) : Nat))), (26, .val (.int .i64 c.ways)), (27, .val (.int .i64 q.1))], H := [.cells gc 66 [.val (.int .i64 c.sets), .val (.int .i64 c.ways), .slc 1 0 c.n c.n, .val (.int .i64 c.uses)], .row gs 44 (slV c.n c.sl), .cells gr 70 [.val (.pointer none)], .cells go 70 [oSV q.2], .cells g1 26 [.ptr 0 0], .cells g2 3 [.val (.int .i64 (L : Int))], .obj D (.deferred (some [])), .obj lo (.loop rec)] }) (fun q => c.ways - q.1) (fun _ => rfl) ?start ?round
 case start =>
  intro a W rep
  exact ⟨(0, none), ⟨Nat.zero_le _, rfl, by simp⟩, rep.le (by (simp only [setn, List.nil_append, List.cons_append, leF, leH_nil, leH_cons, leF_nil, lk, scp, scpL, scpO, resF, resH, resO, resV, resVL, nth, Nat.reduceBEq, Nat.reduceLT, decide_true, decide_false, List.length, List.length_cons, List.length_nil, Nat.reduceAdd, Bool.and_self, Bool.and_true, and_true, true_and, numF] <;> try simp)) (by simp only [oSV]; (simp only [setn, List.nil_append, List.cons_append, leF, leH_nil, leH_cons, leF_nil, lk, scp, scpL, scpO, resF, resH, resO, resV, resVL, nth, Nat.reduceBEq, Nat.reduceLT, decide_true, decide_false, List.length, List.length_cons, List.length_nil, Nat.reduceAdd, Bool.and_self, Bool.and_true, and_true, true_and, numF] <;> try simp))⟩
 case round =>
  rintro ⟨i, o⟩ ⟨hi, hno, hko⟩ I again
  simp only at hi hno hko ⊢
  (refine Y_go 600 ?_; dsimp only [zq9y, t60n3, T60n3, zq9r, zq9q, Y_k, zq50, zq8o, zq6n, Nat.reduceBEq, zq6l, zq6k, zq04, zq92, zq9b, zq0i, zq9e, YK, zq8t, zq9i, normF, zq6m, zq86, zq87, zq8c, t60n2, T60n2, zq9s, zq6h, zq8x, YC, zq9p, t60n1, T60n1, zq9t, zq4u, zq89, t60n0, T60n0, zq5c, zq1o, nth, zq1k, List.length_cons, List.length_nil, Nat.reduceAdd, dropL, takeL, zq19, zq18, zq5i, zq29, zq5a, zq14, zq4w, zq0e, zq58, zq06, zq0x, zq9k, zq9u, popTo, zq6i, YP, zqa3])
  refine ⟨fun hlt => ?_, fun hge => ?_⟩
  rotate_left
  ·have hie : i = c.ways := by have := of_decide_eq_false hge; omega
   subst hie
   refine ret_rule (keep := K60) (tab := T60) (vs := []) r60 rfl rfl fun W hW => ?_
   refine hend _ _ W ?_ (extB_spec ?_) (HeapOk.env (E := ⟨b0, N, st, 42, []⟩) (E' := ⟨b0, N, st, 42, []⟩) rfl rfl rfl hW) ?_
   ·rfl
   ·simp [extB, SO.blk, bump]
   cases o with
   | none =>
    simp only [oSV]
    (refine Y_goM 600 ?_; dsimp only [List.length_cons, List.length_nil, Nat.reduceAdd, setn, zqa1, zq9y, t41n6, T41n6, zq9r, zq9q, Y_k, zq5c, zq8o, zq6n, Nat.reduceBEq, zq6l, zq6k, zq1o, nth, zq1k, dropL, takeL, zq19, zq18, YK, zq8t, zq5d, zq7u, zq76, zq0a, zq1x, zq1t, zq1r, splice, zq8s, zq9i, normF, zq6m, zq86, zq8j, zq8c, zq87, zq9x])
    refine ret_rvm (vs := [.pointer none]) 6 r41 rfl rfl rfl fun W hW => ?_
    exact fin _ W _ 42 _ (by unfold roomV roomC; rw [hno]; rfl) (HeapOk.env (E := ⟨b0, N, st, 42, [D]⟩) (E' := ⟨b0, N, st, 42, []⟩) rfl rfl rfl hW)
   | some k =>
    simp only [oSV]
    (refine Y_goM 600 ?_; dsimp only [List.length_cons, List.length_nil, Nat.reduceAdd, setn, zqa1, zq9y, t41n6, T41n6, zq9r, zq9q, Y_k, zq5c, zq8o, zq6n, Nat.reduceBEq, zq6l, zq6k, zq1o, nth, zq1k, dropL, takeL, zq19, zq18, YK, zq8t, zq5d, zq7y, zq7k, zq0a, zq1x, zq1t, zq1r, splice, zq8s, zq9i, normF, zq6m, zq86, zq8j, zq8c, zq87, zq9x])
    refine ret_rvm (vs := [.pointer (some ⟨gs, k * 21, none⟩)]) 6 r41 rfl rfl rfl fun W hW => ?_
    exact fin _ W _ 42 _ (by unfold roomV roomC; rw [hno]; rfl) (HeapOk.env (E := ⟨b0, N, st, 42, [D]⟩) (E' := ⟨b0, N, st, 42, []⟩) rfl rfl rfl hW)
  have hlt : i < c.ways := by have := of_decide_eq_true hlt; omega
  have hfi := hfr hlt
  refine ⟨((c.from (L : Int) + i : Nat) : Int), ArOk.to (by omega) (by omega) (by omega), ⟨by omega, by omega⟩, ?_⟩
  rw [Int.toNat_natCast, Nat.zero_add]
  have hadd : ArOk .add .i64 (i : Int) 1 ((i + 1 : Nat) : Int) := ArOk.to (by omega) (by omega) (by omega)
  have hnx : rmTo c (c.from L) (i + 1) = rmS c (c.from L + i) o := by simp only [rmTo]; rw [hno]
  have hgo : ∀ o', rmTo c (c.from L) (i + 1) = (none, o') → (∀ k, o' = some k → k < c.n) → ∀ (a : Act) (W : World), Rep ⟨b0, N, st, 42, []⟩ { F := [(0, .val (.func (.yield lo) #[] #[])), (1, .ptr 4 0), (2, .ptr 5 0), (4, .val (.int .i64 (c.from (L : Int) : Nat))), (26, .val (.int .i64 c.ways)), (27, .val (.int .i64 ((i + 1 : Nat) : Int)))], H := [.cells gc 66 [.val (.int .i64 c.sets), .val (.int .i64 c.ways), .slc 1 0 c.n c.n, .val (.int .i64 c.uses)], .row gs 44 (slV c.n c.sl), .cells gr 70 [.val (.pointer none)], .cells go 70 [oSV o'], .cells g1 26 [.ptr 0 0], .cells g2 3 [.val (.int .i64 (L : Int))], .obj D (.deferred (some [])), .obj lo (.loop rec)] } a W → I a W := fun o' h1 h2 a W rep => again (i + 1, o') ⟨hlt, h1, h2⟩ (by show c.ways - (i + 1) < c.ways - i; omega) a W rep
  have hyes : rmTo c (c.from L) (i + 1) = (some (c.from L + i), o) → roomV gs c L = .pointer (some ⟨gs, (c.from L + i) * 21, none⟩) := fun h1 => by
   unfold roomV roomC; rw [rmTo_more h1 hlt]
  generalize c.from (L : Int) + i = j at hfi hnx hyes ⊢
  have c1 : (slV c.n c.sl)[j * 21 + 1]? = some (.int .i64 (c.sl j).st) := slV_at (k := 1) hfi rfl
  have c2 : (slV c.n c.sl)[j * 21 + 2]? = some (.bool (c.sl j).rd) := slV_at (k := 2) hfi rfl
  have c3 : (slV c.n c.sl)[j * 21 + 3]? = some (.bool (c.sl j).wr) := slV_at (k := 3) hfi rfl
  have c20 : (slV c.n c.sl)[j * 21 + 20]? = some (.int .i64 (c.sl j).used) := slV_at (k := 20) hfi rfl
  clear again hno
  cases o with
  | none =>
   simp only [oSV] at hgo ⊢
   refine yield_rule (C' := cxOf Try.prog Try.f60 K60 T60 R') (E := ⟨b0, N, st, 42, []⟩) (i := 7) (rec := rec) (lno := lo) (keep := K41) ?_ ?_ ?_ hrec ?_ ?_ ?_ ?_ ?_ ?_
   ·rfl
   ·rfl
   ·rfl
   ·simp
   ·rfl
   ·rfl
   ·rfl
   ·exact extB_spec (by simp [extB, SO.blk, bump])
   intro J Q' hQ' hbeg hnorm hjmp
   have hF : NoPanic (fun _ _ _ => False) := fun _ _ _ h => h
   (refine Y_round hF 600 ?_; dsimp only [evL, zq8o, zq6n, Nat.reduceBEq, zq6k, setPs, zq9q, Y_k, zq4u, YK, zq8t, zq9i, normF, zq6l, zq6m, zq86, zq8c, zq8j, zq87, zqa2])
   refine lend_rule fun a W rep => hbeg _ _ rfl ?_ a W rep
   (refine Y_round hQ' 600 ?_; dsimp only [setn, zq9y, t41n4, T41n4, zq9t, zq9r, zq9q, Y_k, zq4u, zq8o, zq6n, Nat.reduceBEq, zq6l, zq6k, YK, zq8t, zq5i, zq29, zq5a, zq14, zq5c, zq1o, nth, zq1l, zq1c, List.nil_append, zq1b, zq18, zq50, zq8p, zq6q, zq04, zq92, zq9b, zq0i, zq9c, zq9i, normF, zq6m, zq86, zq87, zq8c, zq8j, zq9s, zq6h, zq8x, YC, t41n0, T41n0, zq5d, zq7y, zq7k, zq0a, zq1x, zq1t, dropL, takeL, zq1r, splice, zq8s, zq89, zq9x, zq9p, t41n3, T41n3, zq1d, Y_gk, zq6e, YS, zq6a, zq4v, zq6o, zq0b, zq8a, zq6f, zq9u, popTo, zq6i, YP, zqa3, YR, zq6c, zq0c, t41n2, T41n2, zq1k, List.length_cons, List.length_nil, Nat.reduceAdd, zq19, zq5t, zq3u, zq3q, t41n1, T41n1, zqa1])
   refine ⟨_, c1, fun h1 => ?_, fun h1 => ⟨_, c2, fun h2 => ?_, fun h2 => ⟨_, c3, fun h3 => ?_, fun h3 => ⟨fun _ => ?_, fun h => absurd h (by decide)⟩⟩⟩⟩
   ·have hz : (c.sl j).st = 0 := by simpa using h1
    have hval := hyes (by rw [hnx]; unfold rmS; rw [if_pos hz])
    have leave : RetG (cxR Try.prog K41 T41 lo Q') ⟨b0, N, st, 42, []⟩ { F := [], H := [.cells gc 66 [.val (.int .i64 c.sets), .val (.int .i64 c.ways), .slc 1 0 c.n c.n, .val (.int .i64 c.uses)], .row gs 44 (slV c.n c.sl), .cells gr 70 [.ptr 1 (j * 21)], .cells go 70 [.val (.pointer none)], .cells g1 26 [.ptr 0 0], .cells g2 3 [.val (.int .i64 (L : Int))], .obj D (.deferred (some [])), .obj lo (.loop { rec with state := .busy })] } := by
     refine fun a W rep => hjmp .ret _ rfl (extB_spec (by simp [extB, SO.blk, bump])) ?_ [] a W rep
     (refine Y_go 600 ?_; dsimp only [zq8t, setn, Y_k, zq53, zq8o, zq6n, Nat.reduceBEq, zq6k, zq0n, YK, zq9i, normF, zq6l, zq6m, zq89, zq87, zq86, zq8c, zq9s, zq6f, YC, zq9x])
     refine ret_rule (vs := []) r60 rfl rfl fun W hW => ?_
     refine hjump .ret _ _ W ?_ (extB_spec ?_) (HeapOk.env (E := ⟨b0, N, st, 42, []⟩) (E' := ⟨b0, N, st, 42, []⟩) rfl rfl rfl hW) ?_
     ·rfl
     ·simp [extB, SO.blk, bump]
     (refine Y_goM 600 ?_; dsimp only [List.length_cons, List.length_nil, Nat.reduceAdd, setn])
     refine ret_rvm (vs := [.pointer (some ⟨gs, j * 21, none⟩)]) 6 r41 rfl rfl rfl fun W hW => ?_
     exact fin _ W _ 42 _ hval.symm (HeapOk.env (E := ⟨b0, N, st, 42, [D]⟩) (E' := ⟨b0, N, st, 42, []⟩) rfl rfl rfl hW)
    exact fun a W rep => leave a W (rep.le (by (simp only [setn, List.nil_append, List.cons_append, leF, leH_nil, leH_cons, leF_nil, lk, scp, scpL, scpO, resF, resH, resO, resV, resVL, nth, Nat.reduceBEq, Nat.reduceLT, decide_true, decide_false, List.length, List.length_cons, List.length_nil, Nat.reduceAdd, Bool.and_self, Bool.and_true, and_true, true_and, numF] <;> try simp)) (by (simp only [setn, List.nil_append, List.cons_append, leF, leH_nil, leH_cons, leF_nil, lk, scp, scpL, scpO, resF, resH, resO, resV, resVL, nth, Nat.reduceBEq, Nat.reduceLT, decide_true, decide_false, List.length, List.length_cons, List.length_nil, Nat.reduceAdd, Bool.and_self, Bool.and_true, and_true, true_and, numF] <;> try simp)))
   ·refine stop_rule fun a W rep => hnorm _ rfl (extB_spec (by simp [extB, SO.blk, bump])) ?_ _ a W rep
    (refine Y_go 600 ?_; dsimp only [zq8t, setn, Y_k, zq53, zq8o, zq6n, Nat.reduceBEq, zq6k, zq0m, YK, zq9i, normF, zq6l, zq6m, zq8a, zq89, zq87, zq86, zq8c, zq9s, zq6g, YC, zq9p, zqa1, zq9q, zq4w, zq8p, zq6q, zq04, zq92, zq9b, zq0e, zq4u, zqa2])
    exact ⟨_, hadd, lend_rule fun a W rep => hgo (none) (by rw [hnx]; unfold rmS; rw [if_neg (by simpa using h1), if_pos (by rw [h2]; rfl)]) (by simp) a W (rep.le (by (simp only [setn, List.nil_append, List.cons_append, leF, leH_nil, leH_cons, leF_nil, lk, scp, scpL, scpO, resF, resH, resO, resV, resVL, nth, Nat.reduceBEq, Nat.reduceLT, decide_true, decide_false, List.length, List.length_cons, List.length_nil, Nat.reduceAdd, Bool.and_self, Bool.and_true, and_true, true_and, numF] <;> try simp)) (by simp only [oSV]; (simp only [setn, List.nil_append, List.cons_append, leF, leH_nil, leH_cons, leF_nil, lk, scp, scpL, scpO, resF, resH, resO, resV, resVL, nth, Nat.reduceBEq, Nat.reduceLT, decide_true, decide_false, List.length, List.length_cons, List.length_nil, Nat.reduceAdd, Bool.and_self, Bool.and_true, and_true, true_and, numF] <;> try simp)))⟩
   ·refine stop_rule fun a W rep => hnorm _ rfl (extB_spec (by simp [extB, SO.blk, bump])) ?_ _ a W rep
    (refine Y_go 600 ?_; dsimp only [zq8t, setn, Y_k, zq53, zq8o, zq6n, Nat.reduceBEq, zq6k, zq0m, YK, zq9i, normF, zq6l, zq6m, zq8a, zq89, zq87, zq86, zq8c, zq9s, zq6g, YC, zq9p, zqa1, zq9q, zq4w, zq8p, zq6q, zq04, zq92, zq9b, zq0e, zq4u, zqa2])
    exact ⟨_, hadd, lend_rule fun a W rep => hgo (none) (by rw [hnx]; unfold rmS; rw [if_neg (by simpa using h1), if_pos (by rw [h2, h3]; rfl)]) (by simp) a W (rep.le (by (simp only [setn, List.nil_append, List.cons_append, leF, leH_nil, leH_cons, leF_nil, lk, scp, scpL, scpO, resF, resH, resO, resV, resVL, nth, Nat.reduceBEq, Nat.reduceLT, decide_true, decide_false, List.length, List.length_cons, List.length_nil, Nat.reduceAdd, Bool.and_self, Bool.and_true, and_true, true_and, numF] <;> try simp)) (by simp only [oSV]; (simp only [setn, List.nil_append, List.cons_append, leF, leH_nil, leH_cons, leF_nil, lk, scp, scpL, scpO, resF, resH, resO, resV, resVL, nth, Nat.reduceBEq, Nat.reduceLT, decide_true, decide_false, List.length, List.length_cons, List.length_nil, Nat.reduceAdd, Bool.and_self, Bool.and_true, and_true, true_and, numF] <;> try simp)))⟩
   ·refine stop_rule fun a W rep => hnorm _ rfl (extB_spec (by simp [extB, SO.blk, bump])) ?_ _ a W rep
    (refine Y_go 600 ?_; dsimp only [zq8t, setn, Y_k, zq53, zq8o, zq6n, Nat.reduceBEq, zq6k, zq0m, YK, zq9i, normF, zq6l, zq6m, zq8a, zq89, zq87, zq86, zq8c, zq9s, zq6g, YC, zq9p, zqa1, zq9q, zq4w, zq8p, zq6q, zq04, zq92, zq9b, zq0e, zq4u, zqa2])
    exact ⟨_, hadd, lend_rule fun a W rep => hgo (some j) (by rw [hnx]; unfold rmS; rw [if_neg (by simpa using h1), if_neg (by rw [h2, h3]; simp)]) (by intro k hk; injection hk with hk; subst hk; exact hfi) a W (rep.le (by (simp only [setn, List.nil_append, List.cons_append, leF, leH_nil, leH_cons, leF_nil, lk, scp, scpL, scpO, resF, resH, resO, resV, resVL, nth, Nat.reduceBEq, Nat.reduceLT, decide_true, decide_false, List.length, List.length_cons, List.length_nil, Nat.reduceAdd, Bool.and_self, Bool.and_true, and_true, true_and, numF] <;> try simp)) (by simp only [oSV]; (simp only [setn, List.nil_append, List.cons_append, leF, leH_nil, leH_cons, leF_nil, lk, scp, scpL, scpO, resF, resH, resO, resV, resVL, nth, Nat.reduceBEq, Nat.reduceLT, decide_true, decide_false, List.length, List.length_cons, List.length_nil, Nat.reduceAdd, Bool.and_self, Bool.and_true, and_true, true_and, numF] <;> try simp)))⟩
  | some k =>
   simp only [oSV] at hgo ⊢
   have k20 : (slV c.n c.sl)[k * 21 + 20]? = some (.int .i64 (c.sl k).used) := slV_at (k := 20) (hko k rfl) rfl
   refine yield_rule (C' := cxOf Try.prog Try.f60 K60 T60 R') (E := ⟨b0, N, st, 42, []⟩) (i := 7) (rec := rec) (lno := lo) (keep := K41) ?_ ?_ ?_ hrec ?_ ?_ ?_ ?_ ?_ ?_
   ·rfl
   ·rfl
   ·rfl
   ·simp
   ·rfl
   ·rfl
   ·rfl
   ·exact extB_spec (by simp [extB, SO.blk, bump])
   intro J Q' hQ' hbeg hnorm hjmp
   have hF : NoPanic (fun _ _ _ => False) := fun _ _ _ h => h
   (refine Y_round hF 600 ?_; dsimp only [evL, zq8o, zq6n, Nat.reduceBEq, zq6k, setPs, zq9q, Y_k, zq4u, YK, zq8t, zq9i, normF, zq6l, zq6m, zq86, zq8c, zq8j, zq87, zqa2])
   refine lend_rule fun a W rep => hbeg _ _ rfl ?_ a W rep
   (refine Y_round hQ' 600 ?_; dsimp only [setn, zq9y, t41n4, T41n4, zq9t, zq9r, zq9q, Y_k, zq4u, zq8o, zq6n, Nat.reduceBEq, zq6l, zq6k, YK, zq8t, zq5i, zq29, zq5a, zq14, zq5c, zq1o, nth, zq1l, zq1c, List.nil_append, zq1b, zq18, zq50, zq8p, zq6q, zq04, zq92, zq9b, zq0i, zq9c, zq9i, normF, zq6m, zq86, zq87, zq8c, zq8j, zq9s, zq6h, zq8x, YC, t41n0, T41n0, zq5d, zq7y, zq7k, zq0a, zq1x, zq1t, dropL, takeL, zq1r, splice, zq8s, zq89, zq9x, zq9p, t41n3, T41n3, zq1d, Y_gk, zq6e, YS, zq6a, zq4v, zq6o, zq0b, zq8a, zq6f, zq9u, popTo, zq6i, YP, zqa3, YR, zq6c, zq0c, t41n2, T41n2, zq1k, List.length_cons, List.length_nil, Nat.reduceAdd, zq19, zq5t, zq3s, zq3q, t41n1, T41n1, zqa1, zq9e])
   refine ⟨_, c1, fun h1 => ?_, fun h1 => ⟨_, c2, fun h2 => ?_, fun h2 => ⟨_, c3, fun h3 => ?_, fun h3 => ⟨fun h => absurd h (by decide), fun _ => ⟨_, c20, _, k20, fun h4 => ?_, fun h4 => ?_⟩⟩⟩⟩⟩
   ·have hz : (c.sl j).st = 0 := by simpa using h1
    have hval := hyes (by rw [hnx]; unfold rmS; rw [if_pos hz])
    have leave : RetG (cxR Try.prog K41 T41 lo Q') ⟨b0, N, st, 42, []⟩ { F := [], H := [.cells gc 66 [.val (.int .i64 c.sets), .val (.int .i64 c.ways), .slc 1 0 c.n c.n, .val (.int .i64 c.uses)], .row gs 44 (slV c.n c.sl), .cells gr 70 [.ptr 1 (j * 21)], .cells go 70 [.ptr 1 (k * 21)], .cells g1 26 [.ptr 0 0], .cells g2 3 [.val (.int .i64 (L : Int))], .obj D (.deferred (some [])), .obj lo (.loop { rec with state := .busy })] } := by
     refine fun a W rep => hjmp .ret _ rfl (extB_spec (by simp [extB, SO.blk, bump])) ?_ [] a W rep
     (refine Y_go 600 ?_; dsimp only [zq8t, setn, Y_k, zq53, zq8o, zq6n, Nat.reduceBEq, zq6k, zq0n, YK, zq9i, normF, zq6l, zq6m, zq89, zq87, zq86, zq8c, zq9s, zq6f, YC, zq9x])
     refine ret_rule (vs := []) r60 rfl rfl fun W hW => ?_
     refine hjump .ret _ _ W ?_ (extB_spec ?_) (HeapOk.env (E := ⟨b0, N, st, 42, []⟩) (E' := ⟨b0, N, st, 42, []⟩) rfl rfl rfl hW) ?_
     ·rfl
     ·simp [extB, SO.blk, bump]
     (refine Y_goM 600 ?_; dsimp only [List.length_cons, List.length_nil, Nat.reduceAdd, setn])
     refine ret_rvm (vs := [.pointer (some ⟨gs, j * 21, none⟩)]) 6 r41 rfl rfl rfl fun W hW => ?_
     exact fin _ W _ 42 _ hval.symm (HeapOk.env (E := ⟨b0, N, st, 42, [D]⟩) (E' := ⟨b0, N, st, 42, []⟩) rfl rfl rfl hW)
    exact fun a W rep => leave a W (rep.le (by (simp only [setn, List.nil_append, List.cons_append, leF, leH_nil, leH_cons, leF_nil, lk, scp, scpL, scpO, resF, resH, resO, resV, resVL, nth, Nat.reduceBEq, Nat.reduceLT, decide_true, decide_false, List.length, List.length_cons, List.length_nil, Nat.reduceAdd, Bool.and_self, Bool.and_true, and_true, true_and, numF] <;> try simp)) (by (simp only [setn, List.nil_append, List.cons_append, leF, leH_nil, leH_cons, leF_nil, lk, scp, scpL, scpO, resF, resH, resO, resV, resVL, nth, Nat.reduceBEq, Nat.reduceLT, decide_true, decide_false, List.length, List.length_cons, List.length_nil, Nat.reduceAdd, Bool.and_self, Bool.and_true, and_true, true_and, numF] <;> try simp)))
   ·refine stop_rule fun a W rep => hnorm _ rfl (extB_spec (by simp [extB, SO.blk, bump])) ?_ _ a W rep
    (refine Y_go 600 ?_; dsimp only [zq8t, setn, Y_k, zq53, zq8o, zq6n, Nat.reduceBEq, zq6k, zq0m, YK, zq9i, normF, zq6l, zq6m, zq8a, zq89, zq87, zq86, zq8c, zq9s, zq6g, YC, zq9p, zqa1, zq9q, zq4w, zq8p, zq6q, zq04, zq92, zq9b, zq0e, zq4u, zqa2])
    exact ⟨_, hadd, lend_rule fun a W rep => hgo (some k) (by rw [hnx]; unfold rmS; rw [if_neg (by simpa using h1), if_pos (by rw [h2]; rfl)]) (hko) a W (rep.le (by (simp only [setn, List.nil_append, List.cons_append, leF, leH_nil, leH_cons, leF_nil, lk, scp, scpL, scpO, resF, resH, resO, resV, resVL, nth, Nat.reduceBEq, Nat.reduceLT, decide_true, decide_false, List.length, List.length_cons, List.length_nil, Nat.reduceAdd, Bool.and_self, Bool.and_true, and_true, true_and, numF] <;> try simp)) (by simp only [oSV]; (simp only [setn, List.nil_append, List.cons_append, leF, leH_nil, leH_cons, leF_nil, lk, scp, scpL, scpO, resF, resH, resO, resV, resVL, nth, Nat.reduceBEq, Nat.reduceLT, decide_true, decide_false, List.length, List.length_cons, List.length_nil, Nat.reduceAdd, Bool.and_self, Bool.and_true, and_true, true_and, numF] <;> try simp)))⟩
   ·refine stop_rule fun a W rep => hnorm _ rfl (extB_spec (by simp [extB, SO.blk, bump])) ?_ _ a W rep
    (refine Y_go 600 ?_; dsimp only [zq8t, setn, Y_k, zq53, zq8o, zq6n, Nat.reduceBEq, zq6k, zq0m, YK, zq9i, normF, zq6l, zq6m, zq8a, zq89, zq87, zq86, zq8c, zq9s, zq6g, YC, zq9p, zqa1, zq9q, zq4w, zq8p, zq6q, zq04, zq92, zq9b, zq0e, zq4u, zqa2])
    exact ⟨_, hadd, lend_rule fun a W rep => hgo (some k) (by rw [hnx]; unfold rmS; rw [if_neg (by simpa using h1), if_pos (by rw [h2, h3]; rfl)]) (hko) a W (rep.le (by (simp only [setn, List.nil_append, List.cons_append, leF, leH_nil, leH_cons, leF_nil, lk, scp, scpL, scpO, resF, resH, resO, resV, resVL, nth, Nat.reduceBEq, Nat.reduceLT, decide_true, decide_false, List.length, List.length_cons, List.length_nil, Nat.reduceAdd, Bool.and_self, Bool.and_true, and_true, true_and, numF] <;> try simp)) (by simp only [oSV]; (simp only [setn, List.nil_append, List.cons_append, leF, leH_nil, leH_cons, leF_nil, lk, scp, scpL, scpO, resF, resH, resO, resV, resVL, nth, Nat.reduceBEq, Nat.reduceLT, decide_true, decide_false, List.length, List.length_cons, List.length_nil, Nat.reduceAdd, Bool.and_self, Bool.and_true, and_true, true_and, numF] <;> try simp)))⟩
   ·refine stop_rule fun a W rep => hnorm _ rfl (extB_spec (by simp [extB, SO.blk, bump])) ?_ _ a W rep
    (refine Y_go 600 ?_; dsimp only [zq8t, setn, Y_k, zq53, zq8o, zq6n, Nat.reduceBEq, zq6k, zq0m, YK, zq9i, normF, zq6l, zq6m, zq8a, zq89, zq87, zq86, zq8c, zq9s, zq6g, YC, zq9p, zqa1, zq9q, zq4w, zq8p, zq6q, zq04, zq92, zq9b, zq0e, zq4u, zqa2])
    exact ⟨_, hadd, lend_rule fun a W rep => hgo (some j) (by rw [hnx]; unfold rmS; rw [if_neg (by simpa using h1), if_neg (by rw [h2, h3]; simp)]; exact if_pos (of_decide_eq_true h4)) (by intro k hk; injection hk with hk; subst hk; exact hfi) a W (rep.le (by (simp only [setn, List.nil_append, List.cons_append, leF, leH_nil, leH_cons, leF_nil, lk, scp, scpL, scpO, resF, resH, resO, resV, resVL, nth, Nat.reduceBEq, Nat.reduceLT, decide_true, decide_false, List.length, List.length_cons, List.length_nil, Nat.reduceAdd, Bool.and_self, Bool.and_true, and_true, true_and, numF] <;> try simp)) (by simp only [oSV]; (simp only [setn, List.nil_append, List.cons_append, leF, leH_nil, leH_cons, leF_nil, lk, scp, scpL, scpO, resF, resH, resO, resV, resVL, nth, Nat.reduceBEq, Nat.reduceLT, decide_true, decide_false, List.length, List.length_cons, List.length_nil, Nat.reduceAdd, Bool.and_self, Bool.and_true, and_true, true_and, numF] <;> try simp)))⟩
   ·refine stop_rule fun a W rep => hnorm _ rfl (extB_spec (by simp [extB, SO.blk, bump])) ?_ _ a W rep
    (refine Y_go 600 ?_; dsimp only [zq8t, setn, Y_k, zq53, zq8o, zq6n, Nat.reduceBEq, zq6k, zq0m, YK, zq9i, normF, zq6l, zq6m, zq8a, zq89, zq87, zq86, zq8c, zq9s, zq6g, YC, zq9p, zqa1, zq9q, zq4w, zq8p, zq6q, zq04, zq92, zq9b, zq0e, zq4u, zqa2])
    exact ⟨_, hadd, lend_rule fun a W rep => hgo (some k) (by rw [hnx]; unfold rmS; rw [if_neg (by simpa using h1), if_neg (by rw [h2, h3]; simp)]; exact if_neg (of_decide_eq_false h4)) (hko) a W (rep.le (by (simp only [setn, List.nil_append, List.cons_append, leF, leH_nil, leH_cons, leF_nil, lk, scp, scpL, scpO, resF, resH, resO, resV, resVL, nth, Nat.reduceBEq, Nat.reduceLT, decide_true, decide_false, List.length, List.length_cons, List.length_nil, Nat.reduceAdd, Bool.and_self, Bool.and_true, and_true, true_and, numF] <;> try simp)) (by simp only [oSV]; (simp only [setn, List.nil_append, List.cons_append, leF, leH_nil, leH_cons, leF_nil, lk, scp, scpL, scpO, resF, resH, resO, resV, resVL, nth, Nat.reduceBEq, Nat.reduceLT, decide_true, decide_false, List.length, List.length_cons, List.length_nil, Nat.reduceAdd, Bool.and_self, Bool.and_true, and_true, true_and, numF] <;> try simp)))⟩
end Go.Proofs.Ytimmobbginjkfaa
