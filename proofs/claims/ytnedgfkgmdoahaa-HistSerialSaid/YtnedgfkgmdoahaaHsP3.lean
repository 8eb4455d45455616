/- shuntlaw12.serial: the history of blocks one behind the other. -/
import Derived.Test.YtnedgfkgmdoahaaHsP1
import Derived.Test.YtnedgfkgmdoahaaHsPlain
import Derived.Test.YtnedgfkgmdoahaaSxGhost
import Derived.Test.YtnedgfkgmdoahaaHsCodeS
set_option linter.unusedSimpArgs false
set_option linter.unusedVariables false
set_option linter.unnecessarySimpa false
namespace Go.Proofs.Ytnedgfkgmdoahaa
open Go Go.Sx Go.Hs
set_option maxRecDepth 100000
structure BHd where
 A : Option Addr
 c : Nat
deriving Inhabited
def bopV (o : Bop) : List Value := [.int .i64 o.addr, .bool o.st, .int .u64 o.val]
def bopC (l : List Bop) : List Value := l.flatMap bopV
theorem bopC_len (l : List Bop) : (bopC l).length = l.length * 3 := flat_len (f := bopV) (sz := 3) (fun _ => rfl) l
theorem bopC_get (l : List Bop) {i k : Nat} (hi : i < l.length) (hk : k < 3) : (bopC l)[i * 3 + k]? = (bopV l[i])[k]? := flat_get (f := bopV) (sz := 3) (fun _ => rfl) l hi hk
def blkV (p : Blk × BHd) : List Value := [.int .i64 p.1.core, .int .i64 p.1.lane, .slice p.2.A p.1.ops.length p.2.c, .bool p.1.ab]
def blkC (z : List (Blk × BHd)) : List Value := z.flatMap blkV
theorem blkC_len (z : List (Blk × BHd)) : (blkC z).length = z.length * 4 := flat_len (f := blkV) (sz := 4) (fun _ => rfl) z
theorem blkC_get (z : List (Blk × BHd)) {i k : Nat} (hi : i < z.length) (hk : k < 4) : (blkC z)[i * 4 + k]? = (blkV z[i])[k]? := flat_get (f := blkV) (sz := 4) (fun _ => rfl) z hi hk
def cntL (l : List Blk) (i : Nat) : List Int := [(cntN l 0 i : Nat), (cntN l 1 i : Nat), (cntN l 2 i : Nat), (cntN l 3 i : Nat)]
def iV (l : List Int) : List Value := l.map fun n => .int .i64 n
theorem cnt_le (l : List Blk) (c : Int) : ∀ i, cntN l c i ≤ i
 | 0 => Nat.le_refl _
 | i + 1 => by
  have := cnt_le l c i
  simp only [cntN]; split <;> omega
theorem cnt_get (l : List Blk) (i : Nat) {c : Int} (h0 : 0 ≤ c) (h1 : c < 4) : (iV (cntL l i))[0 + c.toNat * 1]? = some (.int .i64 (cntN l c i : Nat)) := by
 have : c = 0 ∨ c = 1 ∨ c = 2 ∨ c = 3 := by omega
 rcases this with rfl | rfl | rfl | rfl <;> rfl
theorem cnt_set (l : List Blk) (i : Nat) {c : Int} (h0 : 0 ≤ c) (h1 : c < 4) (hc : (l.getD i default).core = c) : setn (iV (cntL l i)) (0 + c.toNat * 1) (.int .i64 ((cntN l c i + 1 : Nat) : Int)) = iV (cntL l (i + 1)) := by
 have : c = 0 ∨ c = 1 ∨ c = 2 ∨ c = 3 := by omega
 rcases this with rfl | rfl | rfl | rfl <;> (unfold cntL iV; simp only [cntN, hc]; rfl)
theorem uV_one (l : List Int) : ∀ v ∈ l.map uV, v.oneCell' = true := by
 intro v hv
 obtain ⟨a, _, rfl⟩ := List.mem_map.1 hv
 rfl
theorem ser_hlen {l : List Blk} {ws0 : List Int} : ∀ {i : Nat} {h : List Ev} {ws : List Int}, serN l ws0 i = some (h, ws) → h.length ≤ i * 43
 | 0, h, ws, hs => by simp only [serN] at hs; injection hs with hs; injection hs with h1 _; rw [← h1]; simp
 | i + 1, h, ws, hs => by
  simp only [serN] at hs
  cases hq : serN l ws0 i with
  | none => rw [hq] at hs; cases hs
  | some s =>
   rw [hq] at hs
   simp only at hs
   split at hs
   ·cases hs
   ·rename_i hb
    cases hr : opsN (whoE (l.getD i default) (cntN l (l.getD i default).core i)) (l.getD i default).ops s.2 (l.getD i default).ops.length with
    | none => rw [hr] at hs; cases hs
    | some r =>
     rw [hr] at hs; injection hs with hs; injection hs with h1 _
     have := ser_hlen (h := s.1) (ws := s.2) hq
     have := (ops_ok (es := r.1) (own := r.2) hr).len
     unfold badBlk at hb
     rw [← h1]
     unfold blockH
     simp only [List.length_append, List.length_cons, List.length_nil]
     omega
theorem setn_set {α : Type} : ∀ (l : List α) (i : Nat) (a : α), setn l i a = l.set i a
 | [], _, _ => by simp [setn]
 | x :: l, 0, a => rfl
 | x :: l, i + 1, a => by simp [setn, setn_set l i a]
theorem serial46 (L A : Option Addr) (lc c : Nat) (z : List (Blk × BHd)) (ws : List Int) (w : World) (b0 : World) (N : Nat) (st : List Nat)
  (hL : RowE ⟨b0, N, st, 0, []⟩ L (blkC z)) (hops : ∀ p ∈ z, RowE ⟨b0, N, st, 0, []⟩ p.2.A (bopC p.1.ops)) (hW : HeapOk ⟨b0, N, st, 0, []⟩ [.own 63 0 1 A ws.length c (ws.map uV)] w) (hz : z.length ≤ 12) (hwl : ws.length ≤ 60) :
  CallsV Try.prog 46 [.slice L z.length lc, .slice A ws.length c] w fun v w' =>
   (serN (z.map (·.1)) ws z.length = none ∧ v = .tuple #[.slice none 0 0, .bool false] ∧ ∃ ws' : List Int, ws'.length = ws.length ∧ HeapOk ⟨b0, N, st, 0, []⟩ [.own 63 0 1 A ws.length c (ws'.map uV)] w') ∨
   (∃ (h : List Ev) (ws' : List Int) (S : Option Addr) (sc : Nat), serN (z.map (·.1)) ws z.length = some (h, ws') ∧ v = .tuple #[.slice S h.length sc, .bool true] ∧ HeapOk ⟨b0, N, st, 0, []⟩ [.own 63 0 1 A ws.length c (ws'.map uV), .own 65 0 9 S h.length sc (cellsE h)] w') := by
 refine calls_lent (keep := K46) (nt := 147) (svs := [.val (.slice L z.length lc), .own 0 0]) Try.func46 x46 n46 (by simp) hW ?_ fun R hR => ?_
 ·simp only [IsL, Is]; exact ⟨_, _, rfl, ⟨_, _, ⟨_, _, _, _, _, _, _, rfl, Nat.le_refl _, ⟨_, _, _, rfl⟩, fun _ => rfl⟩, rfl, rfl⟩, rfl⟩
 (refine Y_go 600 ?_; dsimp only [X46, numF, Nat.reduceAdd, zq9r, zq9q, Y_k, zq4u, zq8p, zq6u, YK, zq8t, zq6p, zq9i, normF, zq6n, Nat.reduceBEq, zq6l, zq6k, zq6m, zq86, zq8a, zq87, zq8f, zq9y, t46n34, T46n34, t46n33, T46n33, zq5g, List.map, zq6q, zq22, zq25, zq5e, List.length_cons, List.length_nil, List.cons_append, List.nil_append, zq5d, zq8o, zq7t, zq8l, zq73, zq8m, zq8k, zq0a, zq1x, nth, zq1t, dropL, takeL, zq1r, splice, setn, zq8s, zq8c, t46n32, T46n32, zq9t, zq9v])
 intro g
 refine loop_go (α := Nat × List Ev × List Int × Option Addr × Nat) (fun q => q.1 ≤ z.length ∧ serN (z.map (·.1)) ws q.1 = some (q.2.1, q.2.2.1)) (fun _ => ⟨b0, N, st, 147, []⟩)
  (fun q => { F := [(0, .val (.slice L z.length lc)), (1, .own 0 0), (6, .own 2 0), (7, .ptr 1 0), (8, .val (.int .i64 q.1))], H := [.own 63 0 1 A ws.length c (q.2.2.1.map uV), .row g 56 (iV (cntL (z.map (·.1)) q.1)), .own 65 0 9 q.2.2.2.1 q.2.1.length q.2.2.2.2 (cellsE q.2.1)] }) (fun q => z.length - q.1) (fun _ => rfl) ?start ?round
 case start =>
  intro a W rep
  refine ⟨(0, [], ws, none, 0), ⟨Nat.zero_le _, rfl⟩, ?_⟩
  exact ((rep.torow 1 (g := g) (t := 56) (xs := iV (cntL (z.map (·.1)) 0)) rfl rfl).adopt 6 65 9 rfl).le (by (simp only [setn, List.nil_append, List.cons_append, leF, leH_nil, leH_cons, leF_nil, lk, scp, scpL, scpO, resF, resH, resO, resV, resVL, nth, Nat.reduceBEq, Nat.reduceLT, decide_true, decide_false, List.length, List.length_cons, List.length_nil, Nat.reduceAdd, Bool.and_self, Bool.and_true, and_true, true_and, numF] <;> try simp)) (by (simp only [setn, List.nil_append, List.cons_append, leF, leH_nil, leH_cons, leF_nil, lk, scp, scpL, scpO, resF, resH, resO, resV, resVL, nth, Nat.reduceBEq, Nat.reduceLT, decide_true, decide_false, List.length, List.length_cons, List.length_nil, Nat.reduceAdd, Bool.and_self, Bool.and_true, and_true, true_and, numF] <;> try simp); rfl)
 case round =>
  rintro ⟨i, h, wi, S, sc⟩ ⟨hi, hser⟩ I again
  simp only at hi hser
  (refine Y_go 600 ?_; dsimp only [zq9y, t46n30, T46n30, zq9r, zq9q, Y_k, zq4u, zq8o, zq6n, Nat.reduceBEq, zq6l, zq6k, YK, zq8t, zq55, zq0r, zq50, zq04, zq92, zq9b, zq0i, zq9e, zq9i, normF, zq6m, zq86, zq87, zq8c, zq8f, zq9s, zq6h, zq8x, YC, zq9p, t46n29, T46n29, zq9t, zq58, zq06, zq0w, zq5c, zq1p, zq1c, List.nil_append, List.cons_append, zq1g, zq1d, zq1b, zq17, zq5e, List.length_cons, List.length_nil, Nat.reduceAdd, List.map, zq6q, zq6u, zq6p, zq5d, zq7t, zq8l, zq73, zq8m, zq77, zq7g, zq8k, zq0a, zq1x, nth, zq1t, dropL, takeL, zq1r, splice, setn, zq8s, zq89, t46n27, T46n27, zq5a, zq14, Nat.add_zero, zq1o, zq1k, zq19, zq18, zq8p, Y_gk, zq6e, YS, zq6a, zq4v, zq6o, zq0b, zq6f, t46n0, T46n0, zq8a, zq9x, YR, zq6c, zq9g, zq0c, t46n26, T46n26, zq59, zq10, zq1l, zq5g, zq21, zq7u, zq20, zq22, zq25, t46n25, T46n25, zq4w, zq0e, zq1u, denL, den, zq1s, t46n24, T46n24, zq5h, repL, zq23, Nat.reduceMul, zq24, zq26, zq5l, zq2w, zq09, zq08, zq2s, zq2r, zq2n, zq2j, zq2k, zq2l, zq2h, t46n23, T46n23, zq2x, zq2u, zq2t, zq2q, zq2m, zq2i, t46n22, T46n22, zq9v, zq9u, popTo, zq6i, YP, t46n31, T46n31])
  have bad : ∀ s, serN (z.map (·.1)) ws z.length = none → (∀ W, HeapOk ⟨b0, N, st, 147, []⟩ s.H W → ∃ ws' : List Int, ws'.length = ws.length ∧ HeapOk ⟨b0, N, st, 0, []⟩ [.own 63 0 1 A ws.length c (ws'.map uV)] W) → denAll s.H s.F [4, 5] = some [.slice none 0 0, .bool false] → RetG (cxOf Try.prog Try.f46 K46 T46 R) ⟨b0, N, st, 147, []⟩ s := fun s h1 h2 h3 =>
   ret_rule (vs := [.slice none 0 0, .bool false]) r46 rfl h3 fun W hW => hR _ _ (.inl ⟨h1, rfl, h2 W hW⟩)
  have hwil : wi.length = ws.length := ser_len hser
  have one : ∀ (e : List SO) W, HeapOk ⟨b0, N, st, 147, []⟩ (.own 63 0 1 A ws.length c (wi.map uV) :: e) W → ∃ ws' : List Int, ws'.length = ws.length ∧ HeapOk ⟨b0, N, st, 0, []⟩ [.own 63 0 1 A ws.length c (ws'.map uV)] W := fun e W hW => ⟨wi, hwil, HeapOk.env (E := ⟨b0, N, st, 147, []⟩) (E' := ⟨b0, N, st, 0, []⟩) rfl rfl rfl (HeapOk.pre (H' := [.own 63 0 1 A ws.length c (wi.map uV)]) (r := e) hW (by simp [scpO]))⟩
  refine ⟨fun hlt => ?_, fun hge => ?_⟩
  ·have hlt : i < z.length := by have := of_decide_eq_true hlt; omega
   have hzi : z[i]? = some z[i] := List.getElem?_eq_getElem hlt
   have hLs : L.isSome = true := hL.isSome (j := i * 4) (by rw [blkC_len]; omega)
   have clz : ∀ k v, (blkV z[i])[k]? = some v → CellAt ⟨b0, N, st, 147, []⟩ L ((i : Int).toNat * 4 + k) v := fun k v hk => by
    rw [Int.toNat_natCast]
    exact hL.cell (by rw [blkC_get z hlt (List.getElem?_eq_some_iff.1 hk).1]; exact hk)
   have hop := hops _ (List.getElem_mem hlt)
   have hli : (z.map (·.1)).getD i default = z[i].1 := by rw [List.getD_eq_getElem?_getD, List.getElem?_map, hzi]; rfl
   generalize z[i] = p at hzi clz hop hli
   obtain ⟨b, hd⟩ := p
   refine ⟨⟨by omega, by omega, hLs⟩, _, clz 0 _ rfl, _, clz 1 _ rfl, _, _, _, clz 2 _ rfl, _, clz 3 _ rfl, fun g1 => ?_⟩
   have hbad : badBlk b → serN (z.map (·.1)) ws z.length = none := fun hb => by
    refine serN_none (k := i + 1) ?_ hlt
    simp only [serN, hser, hli]
    rw [if_pos hb]
   simp only [blkV] at hop hli ⊢
   refine ⟨fun q => bad _ (hbad (by unfold badBlk; have := of_decide_eq_true q; omega)) (one _) rfl, fun q0 => ⟨fun q => bad _ (hbad (by unfold badBlk; have := of_decide_eq_true q; omega)) (one _) rfl, fun q1 => ⟨fun q => bad _ (hbad (by unfold badBlk; have := of_decide_eq_true q; omega)) (one _) rfl, fun q2 => ⟨fun q => bad _ (hbad (by unfold badBlk; have := of_decide_eq_true q; omega)) (one _) rfl, fun q3 => ⟨fun q => bad _ (hbad (by unfold badBlk; have := of_decide_eq_true q; omega)) (one _) rfl, fun q4 => ?_⟩⟩⟩⟩⟩
   have hok : ¬ badBlk b := by
    have := of_decide_eq_false q0; have := of_decide_eq_false q1; have := of_decide_eq_false q2; have := of_decide_eq_false q3; have := of_decide_eq_false q4
    unfold badBlk; omega
   have hc0 : 0 ≤ b.core ∧ b.core < ((4 : Nat) : Int) := by unfold badBlk at hok; omega
   generalize hl : z.map (·.1) = l at *
   have hcn := cnt_le l b.core i
   have hhl : h.length ≤ i * 43 := ser_hlen hser
   refine ⟨hc0, _, cnt_get l i hc0.1 hc0.2, fun g2 => ⟨hc0, _, cnt_get l i hc0.1 hc0.2, ((cntN l b.core i + 1 : Nat) : Int), ArOk.to (by omega) (by omega) (by omega), hc0, ?_, fun g3 => ⟨?_, fun S1 sc1 g4 => ⟨⟨trivial, uV_one wi⟩, ?_, fun O oc => ?_⟩⟩⟩⟩
   ·simp only [iV, cntL, List.length_map, List.length_cons, List.length_nil]; omega
   ·exact ⟨by simp only [maxLen]; omega, by omega⟩
   ·exact ⟨by simp only [maxLen]; omega, by omega⟩
   rw [cnt_set l i hc0.1 hc0.2 (by rw [hli])]
   have hw1 : cellsE h ++ [Value.int .i64 1, .int .i64 0, .int .i64 b.core, .int .i64 (cntN l b.core i : Nat), .int .i64 0, .int .i64 b.lane, .int .i64 0, .int .u64 0, .int .i64 0] = cellsE (h ++ [whoE b (cntN l b.core i)]) := by rw [cellsE_app]; rfl
   rw [hw1]
   generalize hn : cntN l b.core i = n at *
   refine loop_go (α := Nat × List Ev × List Int × Option Addr × Nat × Option Addr × Nat) (fun q => q.1 ≤ b.ops.length ∧ opsN (whoE b n) b.ops wi q.1 = some (q.2.1, q.2.2.1)) (fun _ => ⟨b0, N, st, 147, []⟩)
    (fun q => { F := [(0, .val (.slice L z.length lc)), (1, .own 0 0), (6, .own 2 0), (7, .ptr 1 0), (8, .val (.int .i64 i)), (9, .ptr 3 0), (10, .ptr 4 0), (11, .own 5 0), (12, .val (.int .i64 q.1))], H := [.own 63 0 1 A ws.length c (wi.map uV), .row g 56 (iV (cntL l (i + 1))), .own 65 0 9 q.2.2.2.1 (h ++ whoE b n :: q.2.1).length q.2.2.2.2.1 (cellsE (h ++ whoE b n :: q.2.1)),
     .cells g1 142 [.val (.int .i64 b.core), .val (.int .i64 b.lane), .val (.slice hd.A b.ops.length hd.c), .val (.bool b.ab)], .cells g2 65 [.val (.int .i64 1), .val (.int .i64 0), .val (.int .i64 b.core), .val (.int .i64 n), .val (.int .i64 0), .val (.int .i64 b.lane), .val (.int .i64 0), .val (.int .u64 0), .val (.int .i64 0)], .own 63 0 1 q.2.2.2.2.2.1 ws.length q.2.2.2.2.2.2 (q.2.2.1.map uV)] }) (fun q => b.ops.length - q.1) (fun _ => rfl) ?start2 ?round2
   case start2 =>
    intro a W rep
    refine ⟨(0, [], wi, S1, sc1, O, oc), ⟨Nat.zero_le _, rfl⟩, ?_⟩
    rw [Nat.zero_add] at rep
    simp only [List.length_append, List.length_cons, List.length_nil]
    exact ((rep.res.pick [0, 1, 2, 3, 4, 7] (by decide)).le (by (simp only [renF, renV, renVL, renO, pickH, pickE, posOf, setn, List.nil_append, List.cons_append, leF, leH_nil, leH_cons, leF_nil, lk, scp, scpL, scpO, resF, resH, resO, resV, resVL, nth, Nat.reduceBEq, Nat.reduceLT, decide_true, decide_false, List.length, List.length_cons, List.length_nil, Nat.reduceAdd, Bool.and_self, Bool.and_true, and_true, true_and, numF] <;> try simp)) (by (simp only [renF, renV, renVL, renO, pickH, pickE, posOf, setn, List.nil_append, List.cons_append, leF, leH_nil, leH_cons, leF_nil, lk, scp, scpL, scpO, resF, resH, resO, resV, resVL, nth, Nat.reduceBEq, Nat.reduceLT, decide_true, decide_false, List.length, List.length_cons, List.length_nil, Nat.reduceAdd, Bool.and_self, Bool.and_true, and_true, true_and, numF] <;> try simp)))
   case round2 =>
    rintro ⟨k, es, own, S2, sc2, O2, oc2⟩ ⟨hk, hops⟩ I2 again2
    simp only at hk hops
    by_cases hlt2 : k < b.ops.length
    ·(refine Y_go 600 ?_; dsimp only [zq9y, t46n13, T46n13, zq9r, zq9q, Y_k, zq4u, zq8o, zq6n, Nat.reduceBEq, zq6l, zq6k, YK, zq8t, zq5a, zq14, Nat.reduceAdd, zq5c, zq1o, nth, zq1k, List.length_cons, List.length_nil, dropL, takeL, zq19, zq18, zq55, zq0r, zq50, zq04, zq92, zq9b, zq0i, zq9e, zq9i, normF, zq6m, zq86, zq87, zq8f, zq8c, zq9s, zq6h, zq8x, YC, zq9p, t46n12, T46n12, zq9t, zq17, zq5e, List.map, zq6q, List.cons_append, List.nil_append, zq5d, zq7t, zq8l, zq73, zq8m, zq8k, zq0a, zq1x, zq1t, zq1r, splice, setn, zq8s, zq89, t46n10, T46n10, zq58, zq06, zq0w, zq16, Nat.add_zero, zq1p, zq1c, zq1b, zq7u, t46n9, T46n9, zq8p, Y_gk, zq6e, YS, zq6a, zq4v, zq6o, zq0b, zq6f, t46n1, T46n1, zq6u, zq6p, zq8a, zq9x, YR, zq6c, zq0t, zq09, zq08, zq0q, zq9h, zq0c, t46n8, T46n8, t46n7, T46n7, zq0y, zq0v, zq1q, zq1n, t46n6, T46n6, zq1d, t46n4, T46n4, t46n3, T46n3, t46n2, T46n2, zq1y, zq1w, denL, den, zq1v, t46n5, T46n5, zq5h, repL, zq23, Nat.reduceMul, zq20, zq24, zq26, zq5l, zq2w, zq2s, zq2r, zq2n, zq2j, zq2k, zq2l, zq2h, zqa1, t46n11, T46n11, zq4w, zq0e, zqa2, zq9u, popTo, zq6i, YP, t46n21, T46n21, t46n20, T46n20, t46n19, T46n19, t46n18, T46n18, t46n17, T46n17, t46n14, T46n14, t46n16, T46n16, t46n28, T46n28, t46n15, T46n15])
     refine ⟨fun _ g5 => ?_, fun q => absurd (of_decide_eq_false q) (by omega)⟩
     have hAs : hd.A.isSome = true := hop.isSome (j := k * 3) (by rw [bopC_len]; omega)
     have clo : ∀ m v, (bopV b.ops[k])[m]? = some v → CellAt ⟨b0, N, st, 147, []⟩ hd.A ((k : Int).toNat * 3 + m) v := fun m v hm => by
      rw [Int.toNat_natCast]
      exact hop.cell (by rw [bopC_get b.ops hlt2 (List.getElem?_eq_some_iff.1 hm).1]; exact hm)
     have hok' := ops_ok hops
     have hol : own.length = ws.length := ((hok').inv []).len.trans hwil
     have hesl := hok'.len
     have hHl : (h ++ whoE b n :: es).length = h.length + 1 + es.length := by simp; omega
     have hb40 : b.ops.length ≤ 40 := by unfold badBlk at hok; omega
     have hgo : b.ops.getD k default = b.ops[k] := by rw [List.getD_eq_getElem?_getD, List.getElem?_eq_getElem hlt2]; rfl
     generalize b.ops[k] = o at clo hgo
     have hbk : (0 ≤ (k : Int) ∧ (k : Int) < (b.ops.length : Int) ∧ hd.A.isSome = true) := ⟨by omega, by omega, hAs⟩
     have hbo : (o.addr < 0 ∨ o.addr ≥ ws.length) → serN l ws z.length = none := fun ho => by
      refine serN_none (k := i + 1) ?_ hlt
      simp only [serN, hser, hli]
      rw [if_neg hok, hn]
      have : opsN (whoE b n) b.ops wi b.ops.length = none := opsN_none (k := k + 1) (by simp only [opsN, hops, hgo]; rw [if_pos (by rw [hwil]; exact ho)]) hlt2
      rw [this]
     refine ⟨hbk, hAs, _, clo 0 _ rfl, fun q => bad _ (hbo (by have := of_decide_eq_true q; omega)) (one _) rfl, fun q0 => ⟨fun q => bad _ (hbo (by have := of_decide_eq_true q; omega)) (one _) rfl, fun q1 => ?_⟩⟩
     have hr0 : 0 ≤ o.addr ∧ o.addr < ws.length := by have := of_decide_eq_false q0; have := of_decide_eq_false q1; omega
     have hnext : opsN (whoE b n) b.ops wi (k + 1) = some (es ++ [opE (whoE b n) own o], opW own o) := by simp only [opsN, hops, hgo]; rw [if_neg (by rw [hwil]; omega)]
     have hwv : (own.map uV)[o.addr.toNat * 1]? = some (.int .u64 (own.getD o.addr.toNat 0)) := by
      rw [Nat.mul_one, List.getElem?_map, List.getD_eq_getElem?_getD, List.getElem?_eq_getElem (by omega)]; rfl
     refine ⟨hr0, _, hwv, hbk, hAs, _, clo 1 _ rfl, ?_⟩
     cases hst : o.st with
     | true =>
      refine ⟨fun _ => ?_, fun q => absurd q (by decide)⟩
      refine ⟨hbk, hAs, _, clo 2 _ rfl, hr0, by rw [List.length_map]; omega, fun g6 => ⟨⟨by simp only [maxLen]; omega, by omega⟩, fun S3 sc3 => ⟨((k + 1 : Nat) : Int), ArOk.to (by omega) (by omega) (by omega), lend_rule fun a W rep => again2 (k + 1, es ++ [opE (whoE b n) own o], opW own o, S3, sc3, O2, oc2) ⟨hlt2, hnext⟩ (by show b.ops.length - (k + 1) < b.ops.length - k; omega) a W ?_⟩⟩⟩
      have e1 : cellsE (h ++ whoE b n :: es) ++ [Value.int .i64 3, .int .i64 0, .int .i64 b.core, .int .i64 n, .int .i64 0, .int .i64 b.lane, .int .i64 o.addr, .int .u64 o.val, .int .i64 0] = cellsE (h ++ whoE b n :: (es ++ [opE (whoE b n) own o])) := by
       have he : opE (whoE b n) own o = { whoE b n with kind := 3, addr := o.addr, value := o.val } := by unfold opE; rw [hst]; rfl
       rw [he]
       exact (cellsE_app (h ++ whoE b n :: es) [{ whoE b n with kind := 3, addr := o.addr, value := o.val }]).symm.trans (by rw [List.append_assoc]; rfl)
      have e2 : (h ++ whoE b n :: es).length + 1 = (h ++ whoE b n :: (es ++ [opE (whoE b n) own o])).length := by simp; omega
      have e3 : setn (own.map uV) (o.addr.toNat * 1) (Value.int .u64 o.val) = (opW own o).map uV := by
       unfold opW; rw [hst, if_pos rfl, Nat.mul_one, List.map_set, setn_set]; rfl
      rw [e1, e2, e3] at rep
      exact rep.res.le (by (simp only [setn, List.nil_append, List.cons_append, leF, leH_nil, leH_cons, leF_nil, lk, scp, scpL, scpO, resF, resH, resO, resV, resVL, nth, Nat.reduceBEq, Nat.reduceLT, decide_true, decide_false, List.length, List.length_cons, List.length_nil, Nat.reduceAdd, Bool.and_self, Bool.and_true, and_true, true_and, numF] <;> try simp)) (by (simp only [setn, List.nil_append, List.cons_append, leF, leH_nil, leH_cons, leF_nil, lk, scp, scpL, scpO, resF, resH, resO, resV, resVL, nth, Nat.reduceBEq, Nat.reduceLT, decide_true, decide_false, List.length, List.length_cons, List.length_nil, Nat.reduceAdd, Bool.and_self, Bool.and_true, and_true, true_and, numF] <;> try simp))
     | false =>
      refine ⟨fun q => absurd q (by decide), fun _ => ?_⟩
      refine fun g6 => ⟨⟨by simp only [maxLen]; omega, by omega⟩, fun S3 sc3 => ⟨((k + 1 : Nat) : Int), ArOk.to (by omega) (by omega) (by omega), lend_rule fun a W rep => again2 (k + 1, es ++ [opE (whoE b n) own o], opW own o, S3, sc3, O2, oc2) ⟨hlt2, hnext⟩ (by show b.ops.length - (k + 1) < b.ops.length - k; omega) a W ?_⟩⟩
      have e1 : cellsE (h ++ whoE b n :: es) ++ [Value.int .i64 2, .int .i64 0, .int .i64 b.core, .int .i64 n, .int .i64 0, .int .i64 b.lane, .int .i64 o.addr, .int .u64 (own.getD o.addr.toNat 0), .int .i64 0] = cellsE (h ++ whoE b n :: (es ++ [opE (whoE b n) own o])) := by
       have he : opE (whoE b n) own o = { whoE b n with kind := 2, addr := o.addr, value := (own.getD o.addr.toNat 0) } := by unfold opE; rw [hst]; rfl
       rw [he]
       exact (cellsE_app (h ++ whoE b n :: es) [{ whoE b n with kind := 2, addr := o.addr, value := (own.getD o.addr.toNat 0) }]).symm.trans (by rw [List.append_assoc]; rfl)
      have e2 : (h ++ whoE b n :: es).length + 1 = (h ++ whoE b n :: (es ++ [opE (whoE b n) own o])).length := by simp; omega
      have e3 : own = opW own o := by
       unfold opW; rw [hst]; rfl
      rw [e1, e2] at rep
      rw [← e3]
      exact rep.res.le (by (simp only [setn, List.nil_append, List.cons_append, leF, leH_nil, leH_cons, leF_nil, lk, scp, scpL, scpO, resF, resH, resO, resV, resVL, nth, Nat.reduceBEq, Nat.reduceLT, decide_true, decide_false, List.length, List.length_cons, List.length_nil, Nat.reduceAdd, Bool.and_self, Bool.and_true, and_true, true_and, numF] <;> try simp)) (by (simp only [setn, List.nil_append, List.cons_append, leF, leH_nil, leH_cons, leF_nil, lk, scp, scpL, scpO, resF, resH, resO, resV, resVL, nth, Nat.reduceBEq, Nat.reduceLT, decide_true, decide_false, List.length, List.length_cons, List.length_nil, Nat.reduceAdd, Bool.and_self, Bool.and_true, and_true, true_and, numF] <;> try simp))
    ·have hge2 : k = b.ops.length := by omega
     subst hge2
     (refine Y_go 42 ?_; dsimp only [zq9y, t46n13, T46n13, zq9r, zq9q, Y_k, zq4u, zq8o, zq6n, Nat.reduceBEq, zq6l, zq6k, YK, zq8t, zq5a, zq14, Nat.reduceAdd, zq5c, zq1o, nth, zq1k, List.length_cons, List.length_nil, dropL, takeL, zq19, zq18, zq55, zq0r, zq50, zq04, zq92, zq9b, zq0i, zq9e, zq9i, normF, zq6m, zq86, zq87, zq8f, zq8c, zq9s, zq6h, zq8x, YC, zq9p, t46n12, T46n12, zq9t, zq17, zq5e, List.map, zq6q, List.cons_append, List.nil_append, zq5d, zq7t, zq8l, zq73, zq8m, zq8k, zq0a, zq1x, zq1t, zq1r, splice, setn, zq8s, zq89, t46n10, T46n10, zq58, zq06, zq0w, zq16, Nat.add_zero, zq1p, zq1c, zq1b, zq7u, t46n9, T46n9, zq8p, Y_gk, zq6e, YS, Y_0, YR, zq9u, popTo, zq6i, YP, t46n21, T46n21, zq8a, t46n20, T46n20, t46n19, T46n19, zq5h, repL, zq23, Nat.reduceMul, zq20, zq24, zq26, zq5l, zq2w, zq09, zq08, zq2s, zq2r, zq2n, zq2j, zq2k, denL, den, zq2l, zq2h, t46n18, T46n18, t46n17, T46n17])
     refine ⟨fun q => absurd (of_decide_eq_true q) (by omega), fun _ => ?_⟩
     have hok' := ops_ok hops
     have hol : own.length = ws.length := ((hok').inv []).len.trans hwil
     have hesl := hok'.len
     have hHl : (h ++ whoE b n :: es).length = h.length + 1 + es.length := by simp; omega
     have hb40 : b.ops.length ≤ 40 := by unfold badBlk at hok; omega
     have hnext : serN l ws (i + 1) = some (h ++ blockH (whoE b n) es b.ab, if b.ab then wi else own) := by
      simp only [serN, hser, hli]
      rw [if_neg hok, hn, hops]
     refine fun g6 g7 => ⟨⟨by simp only [maxLen]; omega, by omega⟩, fun S3 sc3 => ?_⟩
     have e0 : cellsE (h ++ whoE b n :: es) ++ [Value.int .i64 4, .int .i64 0, .int .i64 b.core, .int .i64 n, .int .i64 0, .int .i64 b.lane, .int .i64 0, .int .u64 0, .int .i64 0] = cellsE (h ++ whoE b n :: (es ++ [ptE (whoE b n)])) := by
      exact (cellsE_app (h ++ whoE b n :: es) [ptE (whoE b n)]).symm.trans (by rw [List.append_assoc]; rfl)
     rw [e0]
     cases hab : b.ab with
     | true =>
      rw [hab] at hnext
      (refine Y_go 600 ?_; dsimp only [zq9r, zq9q, Y_k, zq5a, zq8o, zq6n, Nat.reduceBEq, zq6l, zq6k, zq14, Nat.reduceAdd, YK, zq8t, zq5c, zq1o, nth, zq1k, List.length_cons, List.length_nil, dropL, takeL, zq19, zq18, zq9i, normF, zq6m, zq87, zq86, zq8a, zq8c, zq8f, zq9s, zq6h, zq8x, YC, zq9y, t46n14, T46n14, Nat.add_zero, zq5d, zq8p, zq6q, zq7u, zq73, zq0a, zq1x, zq1t, zq1r, splice, setn, zq8s, zq89, t46n16, T46n16, zq4u, zq17, zq5h, List.map, repL, List.cons_append, List.nil_append, zq23, Nat.reduceMul, zq7t, zq8l, zq8m, zq8k, zq20, zq24, zq26, zq5l, zq2w, zq09, zq08, zq2s, zq9b, zq2r, zq2n, zq2j, zq2k, denL, den, zq2l, zq2h, zqa1, t46n28, T46n28, zq4w, zq04, zq92, zq0e, zqa2, t46n15, T46n15])
      refine ⟨fun _ g8 => ⟨⟨by simp only [maxLen]; omega, by omega⟩, fun S4 sc4 => ⟨((i + 1 : Nat) : Int), ArOk.to (by omega) (by omega) (by omega), lend_rule fun a W rep => ?_⟩⟩, fun q => absurd q (by decide)⟩
      have e1 : cellsE (h ++ whoE b n :: (es ++ [ptE (whoE b n)])) ++ [Value.int .i64 6, .int .i64 0, .int .i64 b.core, .int .i64 n, .int .i64 0, .int .i64 b.lane, .int .i64 0, .int .u64 0, .int .i64 5] = cellsE (h ++ blockH (whoE b n) es true) := by
       exact (cellsE_app (h ++ whoE b n :: (es ++ [ptE (whoE b n)])) [endE (whoE b n) true]).symm.trans (by rw [List.append_assoc]; rfl)
      have e2 : (h ++ whoE b n :: es).length + 1 + 1 = (h ++ blockH (whoE b n) es true).length := by unfold blockH; simp; omega
      rw [e1, e2] at rep
      refine again (i + 1, h ++ blockH (whoE b n) es true, wi, S4, sc4) ⟨hlt, hnext⟩ (by show z.length - (i + 1) < z.length - i; omega) a W ?_
      exact rep.res.le (by (simp only [setn, List.nil_append, List.cons_append, leF, leH_nil, leH_cons, leF_nil, lk, scp, scpL, scpO, resF, resH, resO, resV, resVL, nth, Nat.reduceBEq, Nat.reduceLT, decide_true, decide_false, List.length, List.length_cons, List.length_nil, Nat.reduceAdd, Bool.and_self, Bool.and_true, and_true, true_and, numF] <;> try simp)) (by (simp only [setn, List.nil_append, List.cons_append, leF, leH_nil, leH_cons, leF_nil, lk, scp, scpL, scpO, resF, resH, resO, resV, resVL, nth, Nat.reduceBEq, Nat.reduceLT, decide_true, decide_false, List.length, List.length_cons, List.length_nil, Nat.reduceAdd, Bool.and_self, Bool.and_true, and_true, true_and, numF] <;> try simp))
     | false =>
      rw [hab] at hnext
      (refine Y_go 10 ?_; dsimp only [zq9r, zq9q, Y_k, zq5a, zq8o, zq6n, Nat.reduceBEq, zq6l, zq6k, zq14, Nat.reduceAdd, YK, zq8t, zq5c, zq1o, nth, zq1k, List.length_cons, List.length_nil, dropL, takeL, zq19, zq18, zq9i, normF, zq6m, zq87, zq86, zq8a, zq8c, zq8f, zq9s, zq6h, zq8x, YC, zq9y, t46n14, T46n14, Nat.add_zero, Y_0, t46n15, T46n15, zq4u])
      refine ⟨fun q => absurd q (by decide), fun _ => ?_⟩
      refine cpy_rule (i := 0) (j := 5) (ver := 0) (ver' := 0) (n := ws.length) (t := 63) (t' := 63) (A := A) (A' := O2) (c := c) (c' := oc2) (xs := wi.map uV) (ys := own.map uV) ?_ ?_ ?_ ?_ (uV_one own) ?_
      ·rfl
      ·rfl
      ·rfl
      ·rfl
      (refine Y_go 600 ?_; dsimp only [zq8t, setn, zq9i, normF, zq6n, Nat.reduceBEq, zq6l, zq6k, zq6m, zq8a, zq86, zq8c, zq87, zq8f, zq9y, t46n16, T46n16, zq9q, Y_k, zq4u, zq8o, YK, zq5c, zq1o, nth, zq1k, List.length_cons, List.length_nil, Nat.reduceAdd, dropL, takeL, zq19, zq17, zq5h, List.map, zq6q, repL, List.cons_append, List.nil_append, zq23, Nat.reduceMul, zq7t, zq8l, zq73, zq8m, zq8k, zq0a, zq20, splice, zq24, zq26, zq5l, zq2w, zq09, zq08, zq2s, zq9b, zq2r, zq2n, zq2j, zq2k, denL, den, zq2l, zq2h, zqa1, t46n28, T46n28, zq4w, zq8p, zq04, zq92, zq0e, zqa2])
      refine fun g8 => ⟨⟨by simp only [maxLen]; omega, by omega⟩, fun S4 sc4 => ⟨((i + 1 : Nat) : Int), ArOk.to (by omega) (by omega) (by omega), lend_rule fun a W rep => ?_⟩⟩
      have e1 : cellsE (h ++ whoE b n :: (es ++ [ptE (whoE b n)])) ++ [Value.int .i64 5, .int .i64 0, .int .i64 b.core, .int .i64 n, .int .i64 0, .int .i64 b.lane, .int .i64 0, .int .u64 0, .int .i64 0] = cellsE (h ++ blockH (whoE b n) es false) := by
       exact (cellsE_app (h ++ whoE b n :: (es ++ [ptE (whoE b n)])) [endE (whoE b n) false]).symm.trans (by rw [List.append_assoc]; rfl)
      have e2 : (h ++ whoE b n :: es).length + 1 + 1 = (h ++ blockH (whoE b n) es false).length := by unfold blockH; simp; omega
      rw [e1, e2] at rep
      refine again (i + 1, h ++ blockH (whoE b n) es false, own, S4, sc4) ⟨hlt, hnext⟩ (by show z.length - (i + 1) < z.length - i; omega) a W ?_
      exact rep.res.le (by (simp only [setn, List.nil_append, List.cons_append, leF, leH_nil, leH_cons, leF_nil, lk, scp, scpL, scpO, resF, resH, resO, resV, resVL, nth, Nat.reduceBEq, Nat.reduceLT, decide_true, decide_false, List.length, List.length_cons, List.length_nil, Nat.reduceAdd, Bool.and_self, Bool.and_true, and_true, true_and, numF] <;> try simp)) (by (simp only [setn, List.nil_append, List.cons_append, leF, leH_nil, leH_cons, leF_nil, lk, scp, scpL, scpO, resF, resH, resO, resV, resVL, nth, Nat.reduceBEq, Nat.reduceLT, decide_true, decide_false, List.length, List.length_cons, List.length_nil, Nat.reduceAdd, Bool.and_self, Bool.and_true, and_true, true_and, numF] <;> try simp))
  ·have hge : i = z.length := by have := of_decide_eq_false hge; omega
   subst hge
   refine ret_rule (vs := [.slice S h.length sc, .bool true]) r46 rfl rfl fun W hW => hR _ _ (.inr ⟨h, wi, S, sc, hser, rfl, ?_⟩)
   have := hW.pick [0, 2] (by decide)
   exact HeapOk.env (E := ⟨b0, N, st, 147, []⟩) (E' := ⟨b0, N, st, 0, []⟩) rfl rfl rfl this
end Go.Proofs.Ytnedgfkgmdoahaa
