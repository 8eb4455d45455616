/- graph.committed (1): whom it leaves out; slices.IndexFunc and slices.DeleteFunc at attempts. -/
import Derived.Test.YtbkpiljencaoeaaGHsW5
import Derived.Test.YtbkpiljencaoeaaHsRef
import Derived.Test.YtbkpiljencaoeaaSxGhost
import Derived.Test.YtbkpiljencaoeaaGrCodeT
import Derived.Test.YtbkpiljencaoeaaGrCmp
set_option linter.unusedSimpArgs false
set_option linter.unusedVariables false
set_option linter.unnecessarySimpa false
namespace Go.Proofs.Ytbkpiljencaoeaa
open Go Go.Sx Go.Hs
set_option maxRecDepth 100000
def svT (x : At) (h : Hd) : SV := .agg [.val (.int .i64 x.core), .val (.int .i64 x.block), .val (.int .i64 x.tr), .val (.int .i64 x.lane), .val (.int .i64 x.frm), .val (.int .i64 x.point), .val (.int .i64 x.to), .val (.slice h.lA x.loads.length h.lc), .val (.slice h.sA x.stores.length h.sc), .val (.bool x.com), .val (.int .i64 x.code)]
def valT (x : At) (h : Hd) : Value := .agg #[.int .i64 x.core, .int .i64 x.block, .int .i64 x.tr, .int .i64 x.lane, .int .i64 x.frm, .int .i64 x.point, .int .i64 x.to, .slice h.lA x.loads.length h.lc, .slice h.sA x.stores.length h.sc, .bool x.com, .int .i64 x.code]
theorem out51 (x : At) (h : Hd) (w : World) : CallsV Try.prog 51 [valT x h] w fun v w' => v = .bool (outB x) ∧ Fresh w w' := by
 refine calls_go (keep := K51) (nt := 11) (svs := [svT x h]) Try.func51 x51 n51 (by simp) (by simp [IsL, Is, svT, valT]) fun R hR => ?_
 unfold svT
 (refine Y_go 600 ?_; dsimp only [X51, numF, Nat.reduceAdd, zq9r, zq9q, Y_k, zq5f, zq8o, zq6n, Nat.reduceBEq, zq6k, zq7t, List.length_cons, List.length_nil, zq8l, zq73, zq8m, zq77, zq7g, zq8k, zq0a, zq1z, List.nil_append, YK, zq8t, zq4u, zq8p, zq6p, zq9i, normF, zq6l, zq8a, zq8c, zq88, zq9y, t51n0, T51n0, zq5a, zq14, zq5c, zq1o, nth, zq1k, dropL, takeL, zq19, zq18, zq53, zq0o, Y_gk, zq6e, YS, zq6a, zq4v, zq6o, zq0b, zq89, zq9x, YR, zq6c, zq50, zq6q, zq04, zq92, zq9b, zq0i, zq9e, zq0c, zq87])
 refine fun g => ⟨fun hc => ?_, fun hc => ?_⟩
 ·exact ret_rule (vs := [.bool true]) r51 rfl rfl fun W hW => hR _ _ ⟨by unfold outB; rw [hc]; rfl, hW.fresh'⟩
 ·exact ret_rule (vs := [.bool (decide (x.point < 0))]) r51 rfl rfl fun W hW => hR _ _ ⟨by unfold outB; rw [hc]; rfl, hW.fresh'⟩
theorem ok51 : fnOk Try.prog 51 = true := by kernel_rfl
def outN (z : List (At × Hd)) : Nat := z.findIdx fun p => outB p.1
theorem outN_at {z : List (At × Hd)} {i : Nat} (hi : i < z.length) (h : ∀ p ∈ z.take i, outB p.1 = false) (hp : outB z[i].1 = true) : outN z = i := by
 unfold outN
 rw [List.findIdx_eq hi]
 refine ⟨hp, fun j hj => ?_⟩
 have hjl : j < z.length := by omega
 exact h z[j] (List.mem_of_getElem? (i := j) (by rw [List.getElem?_take, if_pos hj, List.getElem?_eq_getElem hjl]))
theorem outN_none {z : List (At × Hd)} (h : ∀ p ∈ z, outB p.1 = false) : outN z = z.length := List.findIdx_eq_length_of_false h
theorem index68 {B : Option Addr} {bc : Nat} (z : List (At × Hd)) (w : World) (hB : RowAt w B (cellsTs z)) (hl : z.length ≤ 1000000) :
  CallsV Try.prog 68 [.slice B z.length bc, .func (.func 51) #[] #[]] w fun v w' => v = .int .i64 (if outN z < z.length then ((outN z : Nat) : Int) else -1) ∧ Fresh w w' := by
 refine calls_go (keep := K68) (nt := 19) (svs := [.val (.slice B z.length bc), .val (.func (.func 51) #[] #[])]) Try.func68 x68 n68 (by simp) (by simp [IsL, Is]) fun R hR => ?_
 (refine Y_go 600 ?_; dsimp only [X68, numF, Nat.reduceAdd, zq9r, zq9q, Y_k, zq4u, zq8p, zq6q, YK, zq8t, zq9i, normF, zq6n, Nat.reduceBEq, zq6l, zq6k, zq6m, zq86, zq87, zq9y, t68n6, T68n6, zq8o, zq55, zq0r, zq9t, zq9v])
 refine loop_go (α := Nat) (fun i => i ≤ z.length ∧ ∀ p ∈ z.take i, outB p.1 = false) (fun _ => ⟨w, w.heap.size, [], 19, []⟩)
  (fun i => { F := [(0, .val (.slice B z.length bc)), (1, .val (.func (.func 51) #[] #[])), (7, .val (.int .i64 z.length)), (8, .val (.int .i64 i))], H := [] }) (fun i => z.length - i) (fun _ => rfl) ?start ?round
 case start =>
  intro a' W rep
  refine ⟨0, ⟨Nat.zero_le _, by simp⟩, rep.le ?_ ?_⟩ <;> (simp only [setn, List.nil_append, List.cons_append, leF, leH_nil, leH_cons, leF_nil, lk, scp, scpL, scpO, resF, resH, resO, resV, resVL, nth, Nat.reduceBEq, Nat.reduceLT, decide_true, decide_false, List.length, List.length_cons, List.length_nil, Nat.reduceAdd, Bool.and_self, Bool.and_true, and_true, true_and, numF] <;> try simp)
 case round =>
  rintro i ⟨hi, hn⟩ I again
  (refine Y_go 600 ?_; dsimp only [zq9y, t68n4, T68n4, zq9r, zq9q, Y_k, zq50, zq8o, zq6n, Nat.reduceBEq, zq6l, zq6k, zq04, zq92, zq9b, zq0i, zq9e, YK, zq8t, zq9i, normF, zq6m, zq86, zq87, t68n3, T68n3, zq9s, zq6h, zq8x, YC, zq9p, t68n2, T68n2, zq9t, zq4u, zq89, t68n1, T68n1, zq58, zq06, zq0w, zq5c, zq1p, zq1c, List.nil_append, List.cons_append, zq1g, zq1d, zq1b, zq17, zq9k, zq9u, popTo, zq6i, YP, t68n5, T68n5, zq8p, zq6q, zq8a, zq9x])
  refine ⟨fun h => ?_, fun h => ?_⟩
  ·have hlt : i < z.length := by have := of_decide_eq_true h; omega
   have cl : ∀ k v, (cellsT z[i].1 z[i].2)[k]? = some v → CellAt ⟨w, w.heap.size, [], 19, []⟩ B ((i : Int).toNat * 11 + k) v := by
    intro k v hk
    have := (List.getElem?_eq_some_iff.1 hk).1
    rw [Int.toNat_natCast]
    exact hB.cell (by rw [cellsTs_get z hlt this]; exact hk)
   have htk : z.take (i + 1) = z.take i ++ [z[i]] := by rw [List.take_add_one, List.getElem?_eq_getElem hlt]; rfl
   have hat := fun hp => outN_at hlt hn hp
   have sB : B.isSome = true := hB.isSome (j := i * 11) (by rw [cellsTs_len]; omega)
   generalize z[i] = p at cl htk hat
   obtain ⟨x, hd⟩ := p
   refine ⟨⟨by omega, by omega, sB⟩, _, cl 0 _ rfl, _, cl 1 _ rfl, _, cl 2 _ rfl, _, cl 3 _ rfl, _, cl 4 _ rfl, _, cl 5 _ rfl, _, cl 6 _ rfl, ?_⟩
   refine ⟨_, _, _, cl 7 _ rfl, _, _, _, cl 8 _ rfl, _, cl 9 _ rfl, _, cl 10 _ rfl, ?_⟩
   refine callv_val (R := fun v => v = .bool (outB x)) (f := 51) (fst := []) (caps := []) (vs := [valT x hd]) rfl ok51 rfl (fun W hW => out51 x hd W) fun v hv => ⟨.val (.bool (outB x)), by rw [hv]; simp [Is], ?_⟩
   dsimp only [zq8t]
   (refine Y_go 600 ?_; dsimp only [zq9i, normF, zq6n, Nat.reduceBEq, zq6l, zq6k, zq6m, zq87, zq89, zq86, zq9s, zq8o, zq6h, zq8x, YC, zq9y, t68n0, T68n0, zq9r, zq9q, Y_k, zq4u, YK, zq8t, zq9x, zq9p, zqa1, zq4w, zq8p, zq6q, zq04, zq92, zq9b, zq0e, zq8a, zqa2])
   refine ⟨fun hb => ?_, fun hb => ⟨((i + 1 : Nat) : Int), ArOk.to (by omega) (by omega) (by omega), lend_rule fun a' W rep => again (i + 1) ⟨hlt, fun p hp => ?_⟩ (by omega) a' W (rep.le (by (simp only [setn, List.nil_append, List.cons_append, leF, leH_nil, leH_cons, leF_nil, lk, scp, scpL, scpO, resF, resH, resO, resV, resVL, nth, Nat.reduceBEq, Nat.reduceLT, decide_true, decide_false, List.length, List.length_cons, List.length_nil, Nat.reduceAdd, Bool.and_self, Bool.and_true, and_true, true_and, numF] <;> try simp)) (by (simp only [setn, List.nil_append, List.cons_append, leF, leH_nil, leH_cons, leF_nil, lk, scp, scpL, scpO, resF, resH, resO, resV, resVL, nth, Nat.reduceBEq, Nat.reduceLT, decide_true, decide_false, List.length, List.length_cons, List.length_nil, Nat.reduceAdd, Bool.and_self, Bool.and_true, and_true, true_and, numF] <;> try simp)))⟩⟩
   ·refine ret_rule (vs := [.int .i64 i]) r68 rfl rfl fun W hW => hR _ _ ⟨?_, hW.fresh'⟩
    rw [hat hb, if_pos hlt]; rfl
   ·rw [htk] at hp
    rcases List.mem_append.1 hp with h | h
    ·exact hn p h
    ·simp only [List.mem_singleton] at h; subst h; exact hb
  ·have hil : i = z.length := by have := of_decide_eq_false h; omega
   subst hil
   rw [List.take_of_length_le (Nat.le_refl _)] at hn
   refine ret_rule (vs := [.int .i64 (-1)]) r68 rfl rfl fun W hW => hR _ _ ⟨?_, hW.fresh'⟩
   rw [outN_none hn, if_neg (by omega)]; rfl
end Go.Proofs.Ytbkpiljencaoeaa
namespace Go.Proofs.Ytbkpiljencaoeaa
open Go Go.Sx Go.Hs
set_option maxRecDepth 100000
def AtT (cur : List Value) (b : Nat) (z : List (At × Hd)) : Prop := ∀ j p k v, z[j]? = some p → (cellsT p.1 p.2)[k]? = some v → cur[b + j * 11 + k]? = some v
def keepT (z : List (At × Hd)) : List (At × Hd) := z.filter fun p => !outB p.1
theorem keepT_len (z : List (At × Hd)) : (keepT z).length ≤ z.length := List.length_filter_le _ _
theorem keepT_snoc (z : List (At × Hd)) (p : At × Hd) : keepT (z ++ [p]) = if outB p.1 then keepT z else keepT z ++ [p] := by
 unfold keepT
 rw [List.filter_append]
 cases h : outB p.1 <;> simp [h]
def setS (cu : List Value) (a : Nat) : List Value → List Value
 | [] => cu
 | v :: vs => setS (setn cu a v) (a + 1) vs
theorem setS_get : ∀ (vs : List Value) {cu : List Value} {a : Nat}, a + vs.length ≤ cu.length → (setS cu a vs).length = cu.length ∧ ∀ t, (setS cu a vs)[t]? = if a ≤ t ∧ t < a + vs.length then vs[t - a]? else cu[t]?
 | [], cu, a, h => ⟨rfl, fun t => by rw [if_neg (by simp)]; rfl⟩
 | v :: vs, cu, a, h => by
  simp only [List.length_cons] at h ⊢
  have hl : (setn cu a v).length = cu.length := by rw [setn_eq, List.length_set]
  obtain ⟨h1, h2⟩ := setS_get vs (cu := setn cu a v) (a := a + 1) (by omega)
  refine ⟨by rw [setS, h1, hl], fun t => ?_⟩
  rw [setS, h2 t]
  by_cases q : t = a
  ·subst q
   rw [if_neg (by omega), if_pos (by omega), set1_get (by omega), if_pos rfl, Nat.sub_self]; rfl
  ·by_cases q2 : a + 1 ≤ t ∧ t < a + 1 + vs.length
   ·rw [if_pos q2, if_pos (by omega)]
    have : t - a = (t - (a + 1)) + 1 := by omega
    rw [this, List.getElem?_cons_succ]
   ·rw [if_neg q2, if_neg (by omega), set1_get (by omega), if_neg q]
structure DlI where
 i : Nat
 j : Nat
 cur : List Value
theorem delete50r {b0 : World} {N : Nat} {st : List Nat} {nt0 : Nat} {mk0 : List Nat} (g b c : Nat) (cur : List Value) (z : List (At × Hd)) (W : World) (hn : z.length ≤ 1000000) (h2 : z.length ≤ c) (hc : b + c * 11 = cur.length) (hcm : c ≤ maxLen) (hcur : AtT cur b z)
  (hW : HeapOk ⟨b0, N, st, nt0, mk0⟩ [.row g 75 cur] W) (hR0 : ∀ W, HeapOk ⟨b0, N, st, 42, []⟩ [.row g 75 cur] W → RowAt W (some ⟨g, b, none⟩) (cellsTs z)) :
  CallsV Try.prog 50 [.slice (some ⟨g, b, none⟩) z.length c, .func (.func 51) #[] #[]] W fun v W' => v = .slice (some ⟨g, b, none⟩) (keepT z).length c ∧ ∃ cur', cur'.length = cur.length ∧ AtT cur' b (keepT z) ∧ HeapOk ⟨b0, N, st, nt0, mk0⟩ [.row g 75 cur'] W' := by
 refine calls_lent (keep := K50) (nt := 42) (svs := [.slc 0 b z.length c, .val (.func (.func 51) #[] #[])]) Try.func50 x50 n50 (by simp) hW (by simp [IsL, Is, blk, nth]) fun R hR => ?_
 (refine Y_go 600 ?_; dsimp only [X50, numF, Nat.reduceAdd, zq9r, zq9q, Y_k, zq4u, zq8p, zq6u, YK, zq8t, zq9i, normF, zq6n, Nat.reduceBEq, zq6l, zq6k, zq6m, zq86, zq87, zq8e, zq9y, t50n11, T50n11, zq8o, zq9j])
 refine call_val (R := fun v => v = .int .i64 (if outN z < z.length then ((outN z : Nat) : Int) else -1)) (vs := [.slice (some ⟨g, b, none⟩) z.length c, .func (.func 51) #[] #[]]) rfl (fun W hW => index68 z W (hR0 W hW) hn) fun v hv => ⟨.val (.int .i64 (if outN z < z.length then ((outN z : Nat) : Int) else -1)), by rw [hv]; simp [Is], ?_⟩
 by_cases ho : outN z < z.length
 ·rw [if_pos ho]
  dsimp only [zq8t]
  (refine Y_go 600 ?_; dsimp only [Y_k, zq4u, zq8o, zq6n, Nat.reduceBEq, zq6k, YK, zq8t, zq9i, normF, zq6l, zq6m, zq86, zq87, zq8e, zq9y, t50n10, T50n10, zq9r, zq9q, zq50, zq8p, zq6q, zq04, zq92, zq9b, zq0i, zq9c, zq9s, zq6h, zq8x, YC, t50n0, T50n0, zq89, zq9x, zq9p, t50n9, T50n9, zq4w, zq0e, zq8a, zq9t, zq9v])
  have hpre : ∀ p ∈ z.take (outN z), outB p.1 = false := fun p hp => by
   obtain ⟨j, hj⟩ := List.getElem?_of_mem hp
   rw [List.getElem?_take] at hj
   split at hj
   ·rename_i hjl
    have := List.not_of_lt_findIdx (xs := z) (p := fun p : At × Hd => outB p.1) (i := j) hjl
    obtain ⟨h8, h9⟩ := List.getElem?_eq_some_iff.1 hj
    rw [h9] at this
    simpa using this
   ·cases hj
  have hout : outB z[outN z].1 = true := List.findIdx_getElem (xs := z) (p := fun p : At × Hd => outB p.1) (w := ho)
  have hk0 : keepT (z.take (outN z + 1)) = z.take (outN z) := by
   rw [List.take_add_one, List.getElem?_eq_getElem ho]
   simp only [Option.toList_some]
   rw [keepT_snoc, if_pos hout]
   unfold keepT
   rw [List.filter_eq_self]
   intro p hp; rw [hpre p hp]; rfl
  generalize hq : outN z = q0 at *
  refine ⟨fun h => absurd (eq_of_beq h) (by omega), fun _ => ⟨((q0 + 1 : Nat) : Int), ArOk.to (by omega) (by omega) (by omega), ?_⟩⟩
  refine loop_go (α := DlI) (fun x => x.i = (keepT (z.take x.j)).length ∧ x.i < x.j ∧ x.j ≤ z.length ∧ AtT x.cur b (keepT (z.take x.j)) ∧ (∀ j p k v, x.j ≤ j → z[j]? = some p → (cellsT p.1 p.2)[k]? = some v → x.cur[b + j * 11 + k]? = some v) ∧ x.cur.length = cur.length) (fun _ => ⟨b0, N, st, 42, []⟩)
   (fun x => { F := [(0, .slc 0 b z.length c), (1, .val (.func (.func 51) #[] #[])), (5, .val (.int .i64 x.i)), (6, .val (.int .i64 x.j))], H := [.row g 75 x.cur] }) (fun x => z.length - x.j) (fun _ => rfl) ?start ?round
  case start =>
   intro a W rep
   refine ⟨⟨q0, q0 + 1, cur⟩, ⟨?_, by simp only; omega, ho, ?_, fun j p k v _ h1 h2 => hcur j p k v h1 h2, rfl⟩, rep.le (by (simp only [setn, List.nil_append, List.cons_append, leF, leH_nil, leH_cons, leF_nil, lk, scp, scpL, scpO, resF, resH, resO, resV, resVL, nth, Nat.reduceBEq, Nat.reduceLT, decide_true, decide_false, List.length, List.length_cons, List.length_nil, Nat.reduceAdd, Bool.and_self, Bool.and_true, and_true, true_and, numF] <;> try simp)) (by (simp only [setn, List.nil_append, List.cons_append, leF, leH_nil, leH_cons, leF_nil, lk, scp, scpL, scpO, resF, resH, resO, resV, resVL, nth, Nat.reduceBEq, Nat.reduceLT, decide_true, decide_false, List.length, List.length_cons, List.length_nil, Nat.reduceAdd, Bool.and_self, Bool.and_true, and_true, true_and, numF] <;> try simp))⟩
   ·simp only [hk0, List.length_take]; omega
   ·simp only [hk0]
    intro j p k v h1 h2
    rw [List.getElem?_take] at h1
    split at h1
    ·exact hcur j p k v h1 h2
    ·cases h1
  case round =>
   rintro ⟨i, j, cu⟩ ⟨h3, h4, h5, h6, h7, h8⟩ I again
   simp only at h3 h4 h5 h6 h7 h8 ⊢
   (refine Y_go 17 ?_; dsimp only [zq9y, t50n6, T50n6, zq9r, zq9q, Y_k, zq4u, zq8o, zq6n, Nat.reduceBEq, zq6l, zq6k, YK, zq8t, zq55, zq0s, zq50, zq04, zq92, zq9b, zq0i, zq9e, zq9i, normF, zq6m, zq86, zq87, zq8e, zq9s, zq6h, zq8x, YC, zq9p, t50n5, T50n5, zq9t, Y_0, zq9u, popTo, zq6i, YP, t50n8, T50n8, zq5o, zq3b, zq06, zq38, zq3g, zq9a])
   refine ⟨fun hlt => ?_, fun hge => ?_⟩
   ·have hlt : j < z.length := by have := of_decide_eq_true hlt; omega
    have hz : z[j]? = some z[j] := List.getElem?_eq_getElem hlt
    have htk : z.take (j + 1) = z.take j ++ [z[j]] := by rw [List.take_add_one, hz]; rfl
    have cl : ∀ k v, (cellsT z[j].1 z[j].2)[k]? = some v → cu[b + (j : Int).toNat * 11 + k]? = some v := fun k v hk => by
     rw [Int.toNat_natCast]; exact h7 j _ k v (Nat.le_refl _) hz hk
    generalize z[j] = p at hz htk cl
    obtain ⟨x, hd⟩ := p
    have hsn := keepT_snoc (z.take j) (x, hd)
    rw [← htk] at hsn
    (refine Y_go 600 ?_; dsimp only [Y_k, zq4u, zq8o, zq6n, Nat.reduceBEq, zq6l, zq6k, YK, zq8t, zq58, zq06, zq0x, zq5c, zq1o, nth, zq1l, zq1c, List.nil_append, List.cons_append, zq1g, zq1d, zq1b, zq17, zq5e, List.length_cons, List.length_nil, Nat.reduceAdd, List.map, zq6q, zq6u, zq6p, zq5d, zq7t, zq8l, zq73, zq8m, zq77, zq7g, zq8k, zq0a, zq1x, zq1t, dropL, takeL, zq1r, splice, setn, zq8s, zq9i, normF, zq6m, zq86, zq89, zq8c, zq87, zq8e, zq9y, t50n3, T50n3, zq9r, zq9q, zq1k, zq19, zq9k])
    refine ⟨⟨by omega, by omega⟩, _, cl 0 _ rfl, _, cl 1 _ rfl, _, cl 2 _ rfl, _, cl 3 _ rfl, _, cl 4 _ rfl, _, cl 5 _ rfl, _, cl 6 _ rfl, _, _, _, cl 7 _ rfl, _, _, _, cl 8 _ rfl, _, cl 9 _ rfl, _, cl 10 _ rfl, fun g1 => ?_⟩
    refine callv_val (R := fun v => v = .bool (outB x)) (f := 51) (fst := []) (caps := []) (vs := [valT x hd]) rfl ok51 rfl (fun W hW => out51 x hd W) fun v hv => ⟨.val (.bool (outB x)), by rw [hv]; simp [Is], ?_⟩
    dsimp only [zq8t]
    (refine Y_go 600 ?_; dsimp only [Y_k, zq53, zq8o, zq6n, Nat.reduceBEq, zq6k, zq0o, YK, zq8t, zq9i, normF, zq6l, zq6m, zq87, zq89, zq86, zq8c, zq8e, zq9s, zq6h, zq8x, YC, zq9y, t50n2, T50n2, zq9r, zq9q, zq4u, zq5c, zq1o, nth, zq1k, List.length_cons, List.length_nil, Nat.reduceAdd, dropL, takeL, zq19, zq17, zq58, zq06, zq0x, zq5d, zq7t, zq8l, zq73, zq8m, zq77, zq7g, zq8k, zq0a, zq1x, zq1u, denL, den, zq1s, splice, setn, zq8s, t50n1, T50n1, zq4w, zq8p, zq6q, zq04, zq92, zq9b, zq0e, zqa1, t50n4, T50n4, zqa2, zq9p, zq8a])
    refine ⟨fun hb => ?_, fun hb => ?_⟩
    ·have hb : outB x = false := by simpa using hb
     rw [if_neg (by rw [hb]; decide)] at hsn
     have hfit : b + i * 11 + (cellsT x hd).length ≤ cu.length := by rw [h8, ← hc]; simp only [cellsT, List.length_cons, List.length_nil]; omega
     obtain ⟨g4, g5⟩ := setS_get (cellsT x hd) hfit
     have hcl : (cellsT x hd).length = 11 := rfl
     refine ⟨⟨by omega, by omega⟩, by rw [Int.toNat_natCast]; omega, ((i + 1 : Nat) : Int), ArOk.to (by omega) (by omega) (by omega), ((j + 1 : Nat) : Int), ArOk.to (by omega) (by omega) (by omega), lend_rule fun a W rep => again ⟨i + 1, j + 1, setS cu (b + i * 11) (cellsT x hd)⟩ ⟨?_, by simp only; omega, by simp only; omega, ?_, ?_, ?_⟩ (by simp only; omega) a W ?_⟩
     ·simp only [hsn, List.length_append, List.length_singleton]; omega
     ·simp only [hsn]
      intro t p k v ht hk
      have hkl : k < 11 := (List.getElem?_eq_some_iff.1 hk).1
      rw [g5]
      by_cases ht2 : t < (keepT (z.take j)).length
      ·rw [List.getElem?_append_left ht2] at ht
       rw [if_neg (by omega)]
       exact h6 t p k v ht hk
      ·rw [List.getElem?_append_right (by omega)] at ht
       have ht3 : t = i := by
        have := (List.getElem?_eq_some_iff.1 ht).1
        simp at this; omega
       subst ht3
       rw [← h3, Nat.sub_self] at ht
       simp at ht
       subst ht
       rw [if_pos (by omega), show b + t * 11 + k - (b + t * 11) = k by omega]
       exact hk
     ·intro t p k v ht h9 hk
      simp only at ht ⊢
      have hkl : k < 11 := (List.getElem?_eq_some_iff.1 hk).1
      rw [g5, if_neg (by omega)]
      exact h7 t p k v (by omega) h9 hk
     ·simp only; rw [g4]; exact h8
     ·rw [Int.toNat_natCast] at rep
      exact rep.le (by (simp only [setn, List.nil_append, List.cons_append, leF, leH_nil, leH_cons, leF_nil, lk, scp, scpL, scpO, resF, resH, resO, resV, resVL, nth, Nat.reduceBEq, Nat.reduceLT, decide_true, decide_false, List.length, List.length_cons, List.length_nil, Nat.reduceAdd, Bool.and_self, Bool.and_true, and_true, true_and, numF] <;> try simp)) (by (simp only [setn, List.nil_append, List.cons_append, leF, leH_nil, leH_cons, leF_nil, lk, scp, scpL, scpO, resF, resH, resO, resV, resVL, nth, Nat.reduceBEq, Nat.reduceLT, decide_true, decide_false, List.length, List.length_cons, List.length_nil, Nat.reduceAdd, Bool.and_self, Bool.and_true, and_true, true_and, numF] <;> try simp); rfl)
    ·have hb : outB x = true := by simpa using hb
     rw [if_pos hb] at hsn
     refine ⟨((j + 1 : Nat) : Int), ArOk.to (by omega) (by omega) (by omega), lend_rule fun a W rep => again ⟨i, j + 1, cu⟩ ⟨by simp only [hsn]; exact h3, by simp only; omega, by simp only; omega, by simp only [hsn]; exact h6, fun t p k v ht => h7 t p k v (by simp only at ht; omega), h8⟩ (by simp only; omega) a W (rep.le (by (simp only [setn, List.nil_append, List.cons_append, leF, leH_nil, leH_cons, leF_nil, lk, scp, scpL, scpO, resF, resH, resO, resV, resVL, nth, Nat.reduceBEq, Nat.reduceLT, decide_true, decide_false, List.length, List.length_cons, List.length_nil, Nat.reduceAdd, Bool.and_self, Bool.and_true, and_true, true_and, numF] <;> try simp)) (by (simp only [setn, List.nil_append, List.cons_append, leF, leH_nil, leH_cons, leF_nil, lk, scp, scpL, scpO, resF, resH, resO, resV, resVL, nth, Nat.reduceBEq, Nat.reduceLT, decide_true, decide_false, List.length, List.length_cons, List.length_nil, Nat.reduceAdd, Bool.and_self, Bool.and_true, and_true, true_and, numF] <;> try simp)))⟩
   ·have hje : j = z.length := by have := of_decide_eq_false hge; omega
    subst hje
    rw [List.take_length] at h3 h6
    refine ⟨⟨by omega, by omega⟩, ?_⟩
    have e4 : subO b c i 11 = b + i * 11 := by
     unfold subO
     rw [if_neg (by omega)]
    rw [Int.toNat_natCast, e4]
    have hrl : (repN (z.length - i) [Value.int .i64 0, .int .i64 0, .int .i64 0, .int .i64 0, .int .i64 0, .int .i64 0, .int .i64 0, .slice none 0 0, .slice none 0 0, .bool false, .int .i64 0]).length = (z.length - i) * 11 := by rw [repN_length]; rfl
    have hmul : (z.length - i) * 11 + i * 11 = z.length * 11 := by rw [← Nat.add_mul]; congr 1; omega
    have hmul2 : z.length * 11 ≤ c * 11 := Nat.mul_le_mul_right 11 h2
    refine clr_rule (i := 0) (off := b + i * 11) (n := z.length - i) (c := c - i) rfl rfl (by omega) (by simp [Value.oneCell']) ?_
    refine opsI_nil ?_
    (refine Y_go 600 ?_; dsimp only [setn, zq9y, t50n7, T50n7, zq9r, zq9q, Y_k, zq4u, zq8o, zq6n, Nat.reduceBEq, zq6l, zq6k, YK, zq8t, zq5o, zq3a, zq39, zq06, zq37, zq3h, zq99, Int.reduceToNat, zq9i, normF, zq6m, zq86, zq8a, zq87, zq8e, zq9x])
    refine ⟨⟨by omega, by omega⟩, ?_⟩
    refine ret_rule (vs := [.slice (some ⟨g, b, none⟩) i c]) r50 rfl ?_ fun W' hW' => hR _ _ ⟨by rw [h3]; rfl, splice cu (b + i * 11) (repN (z.length - i) [Value.int .i64 0, .int .i64 0, .int .i64 0, .int .i64 0, .int .i64 0, .int .i64 0, .int .i64 0, .slice none 0 0, .slice none 0 0, .bool false, .int .i64 0]), by rw [splice_length, h8], ?_, HeapOk.env (E := ⟨b0, N, st, 42, []⟩) (E' := ⟨b0, N, st, nt0, mk0⟩) rfl rfl rfl hW'⟩
    ·show some [Value.slice (some ⟨g, b, none⟩) (((i : Nat) : Int).toNat - 0) (c - 0)] = _
     rw [Int.toNat_natCast]; rfl
    ·intro t p k v ht hk
     have hkl : k < 11 := (List.getElem?_eq_some_iff.1 hk).1
     have htl : t < i := by
      rw [h3]
      exact (List.getElem?_eq_some_iff.1 ht).1
     rw [splice_get _ _ _ _ (by omega), if_neg (by omega)]
     exact h6 t p k v ht hk
 ·rw [if_neg ho]
  dsimp only [zq8t]
  (refine Y_go 600 ?_; dsimp only [Y_k, zq4u, zq8o, zq6n, Nat.reduceBEq, zq6k, YK, zq8t, zq9i, normF, zq6l, zq6m, zq86, zq87, zq8e, zq9y, t50n10, T50n10, zq9r, zq9q, zq50, zq8p, zq6q, zq04, zq92, zq9b, zq0i, zq9c, zq9s, zq6h, zq8x, YC, t50n0, T50n0, zq89, zq9x, zq9p, t50n9, T50n9, zq4w, zq0e, zq8a, zq9t, zq9v])
  have hk : keepT z = z := by
   unfold keepT
   rw [List.filter_eq_self]
   intro p hp
   have h9 : ∀ x ∈ z, outB x.1 = false := by
    intro x hx
    refine Bool.eq_false_iff.2 fun h => ho ?_
    exact List.findIdx_lt_length_of_exists ⟨x, hx, h⟩
   rw [h9 p hp]; rfl
  refine ⟨fun _ => ?_, fun h => absurd h (by decide)⟩
  exact ret_rule (vs := [.slice (some ⟨g, b, none⟩) z.length c]) r50 rfl rfl fun W' hW' => hR _ _ ⟨by rw [hk]; rfl, cur, rfl, by rw [hk]; exact hcur, HeapOk.env (E := ⟨b0, N, st, 42, []⟩) (E' := ⟨b0, N, st, nt0, mk0⟩) rfl rfl rfl hW'⟩
theorem delete50_0 (A : Option Addr) (W : World) : CallsV Try.prog 50 [.slice A 0 0, .func (.func 51) #[] #[]] W fun v W' => v = .slice A 0 0 ∧ Fresh W W' := by
 refine calls_go (keep := K50) (nt := 42) (svs := [.val (.slice A 0 0), .val (.func (.func 51) #[] #[])]) Try.func50 x50 n50 (by simp) (by simp [IsL, Is]) fun R hR => ?_
 (refine Y_go 600 ?_; dsimp only [X50, numF, Nat.reduceAdd, zq9r, zq9q, Y_k, zq4u, zq8p, zq6u, YK, zq8t, zq9i, normF, zq6n, Nat.reduceBEq, zq6l, zq6k, zq6m, zq86, zq87, zq9y, t50n11, T50n11, zq8o, zq9j])
 refine call_val (R := fun v => v = .int .i64 (-1)) (vs := [.slice A 0 0, .func (.func 51) #[] #[]]) rfl (fun W hW => index68 (B := A) (bc := 0) [] W (fun j u hj => by cases hj) (by simp)) fun v hv => ⟨.val (.int .i64 (-1)), by rw [hv]; simp [Is], ?_⟩
 dsimp only [zq8t]
 (refine Y_go 600 ?_; dsimp only [Y_k, zq4u, zq8o, zq6n, Nat.reduceBEq, zq6k, YK, zq8t, zq9i, normF, zq6l, zq6m, zq86, zq87, zq9y, t50n10, T50n10, zq9r, zq9q, zq50, zq8p, zq6q, zq04, zq92, zq9b, zq0i, zq9c, zq9s, zq6h, zq8x, YC, t50n0, T50n0, zq89, zq9x, zq9p, t50n9, T50n9, zq4w, zq0e, zq8a, zq9t, zq9v])
 refine ⟨fun _ => ?_, fun h => absurd h (by decide)⟩
 exact ret_rule (vs := [.slice A 0 0]) r50 rfl rfl fun W' hW' => hR _ _ ⟨rfl, hW'.fresh'⟩
theorem AtT.take {cur : List Value} {b : Nat} {z : List (At × Hd)} (h : AtT cur b z) : (cur.drop b).take (z.length * 11) = cellsTs z := by
 apply List.ext_getElem?
 intro t
 by_cases ht : t < z.length * 11
 ·rw [List.getElem?_take, if_pos ht, List.getElem?_drop]
  have hq : t / 11 < z.length := by omega
  have hk : t % 11 < 11 := Nat.mod_lt _ (by decide)
  have e : t = t / 11 * 11 + t % 11 := by omega
  have h1 := cellsTs_get z hq hk
  rw [← e] at h1
  have hv : (cellsT z[t / 11].1 z[t / 11].2)[t % 11]? = some ((cellsT z[t / 11].1 z[t / 11].2)[t % 11]'hk) := List.getElem?_eq_getElem hk
  have h2 := h _ _ _ _ (List.getElem?_eq_getElem hq) hv
  rw [h1, hv, ← h2]
  congr 1; omega
 ·rw [List.getElem?_eq_none (by simp; omega), List.getElem?_eq_none (by rw [cellsTs_len]; omega)]
theorem delete50 {E : Env} {H : List SO} {W : World} {i ver : Nat} {A : Option Addr} {c : Nat} {z : List (At × Hd)} (hW : HeapOk E H W) (hi : nth H i = some (.own 75 ver 11 A z.length c (cellsTs z))) (hn : z.length ≤ 1000000) :
  CallsV Try.prog 50 [.slice A z.length c, .func (.func 51) #[] #[]] W fun v W' => v = .slice A (keepT z).length c ∧ HExt H (setn H i (.own 75 (ver + 1) 11 A (keepT z).length c (cellsTs (keepT z)))) ∧ HeapOk E (setn H i (.own 75 (ver + 1) 11 A (keepT z).length c (cellsTs (keepT z)))) W' := by
 have hext : HExt H (setn H i (.own 75 (ver + 1) 11 A (keepT z).length c (cellsTs (keepT z)))) := HExt.setOwn hi (Nat.le_succ _) fun h => absurd h (by omega)
 have he0 := hW.ents i _ hi
 obtain ⟨hl, ⟨h1, h2, h3⟩ | ⟨g, b, cur, rfl, hg, h1, h2, h3, h4⟩⟩ := he0
 ·have h0 : z = [] := List.length_eq_zero_iff.1 h1
  subst h0
  subst h2
  refine (delete50_0 A W).mono fun v W' ⟨hv, hf⟩ => ⟨hv, hext, ?_⟩
  refine HeapOk.set (hW.freshK hf) hi hext (fun g hg => .inl hg) (fun _ _ _ => rfl) (Nat.le_refl _) rfl rfl rfl ?_
  have := (hW.freshK hf).ents i _ hi
  exact ⟨by simp [keepT, cellsTs], .inl ⟨rfl, rfl, fun a ha => by
   obtain ⟨_, ⟨_, _, h5⟩ | ⟨g', b', cur', e1, e2, _⟩⟩ := this
   ·exact h5 a ha
   ·rw [e1] at ha; injection ha with ha; subst ha; exact ⟨_, e2⟩⟩⟩
 ·have hg : W.heap[g]? = some (.cells cur 75 (0, 0)) := hg
  have hgl : g < W.heap.size := by
   rcases Nat.lt_or_ge g W.heap.size with h | h
   ·exact h
   ·rw [Array.getElem?_eq_none h] at hg
    cases hg
  have hcell : ∀ t u, (cellsTs z)[t]? = some u → cur.toList[b + t]? = some u := fun t u ht => by
   have htl := (List.getElem?_eq_some_iff.1 ht).1
   rw [cellsTs_len] at htl
   rw [← h4, List.getElem?_take, List.getElem?_drop, if_pos htl] at ht
   exact ht
  have hcur : AtT cur.toList b z := by
   intro j p k v hj hk
   obtain ⟨hjl, rfl⟩ := List.getElem?_eq_some_iff.1 hj
   have hkl : k < 11 := (List.getElem?_eq_some_iff.1 hk).1
   have := hcell (j * 11 + k) v (by rw [cellsTs_get z hjl hkl]; exact hk)
   rw [Nat.add_assoc]; exact this
  have h0 : HeapOk ⟨W, W.heap.size, [g], 0, []⟩ [.row g 75 cur.toList] W := by
   refine ⟨Keep.refl _ _, Nat.le_refl _, fun j e hj => ?_, fun j e g' hj hg' => ?_, fun j j' e e' g' hne hj hj' _ _ => ?_⟩
   ·have : j < 1 := nth_lt hj
    obtain rfl : j = 0 := by omega
    injection hj with hj; subst hj
    show W.heap[g]? = _
    rw [hg]
   ·have : j < 1 := nth_lt hj
    obtain rfl : j = 0 := by omega
    injection hj with hj; subst hj
    injection hg' with hg'; subst hg'
    exact ⟨hgl, fun ho => ho.2 (by simp)⟩
   ·have q1 : j < 1 := nth_lt hj
    have q2 : j' < 1 := nth_lt hj'
    exact absurd (show j = j' by omega) hne
  refine (delete50r g b c cur.toList z W hn h1 (by simpa using h3) h2 hcur h0 fun W' hW' t u ht => ?_).mono fun v W' ⟨hv, cur', hl', ha', hk⟩ => ⟨hv, hext, ?_⟩
  ·obtain ⟨a, ha, hb, hc⟩ := (hW'.cellsRow (i := 0) rfl) (b + t) u (hcell t u ht)
   injection ha with ha; subst ha
   refine ⟨_, rfl, hb, ?_⟩
   rw [add_lit] at hc ⊢
   rw [Nat.zero_add] at hc; exact hc
  ·have hold : ∀ j, j ≠ g → j < W.heap.size → Env.old ⟨W, W.heap.size, [g], 0, []⟩ j := fun j hj hlt => ⟨hlt, by simpa using hj⟩
   have hg2 : W'.heap[g]? = some (.cells cur'.toArray 75 (0, 0)) := hk.ents 0 _ rfl
   have hdl := keepT_len z
   refine hW.set hi hext (fun g' hg' => .inl hg') (fun j hj hlt => hk.keep.block j (hold j (fun e => hj (by rw [e]; rfl)) hlt)) hk.keep.size hk.keep.os hk.keep.tape hk.keep.output ?_
   exact ⟨by rw [cellsTs_len], .inr ⟨g, b, cur'.toArray, rfl, hg2, by omega, h2, by simp only [List.size_toArray]; rw [hl']; simpa using h3, ha'.take⟩⟩
end Go.Proofs.Ytbkpiljencaoeaa
namespace Go.Proofs.Ytbkpiljencaoeaa
open Go Go.Sx Go.Hs
set_option maxRecDepth 100000
def AtsAt (w : World) (B : Option Addr) (z : List (At × Hd)) : Prop := RowAt w B (cellsTs z) ∧ ∀ p ∈ z, RowAt w p.2.lA (cellsPr p.1.loads) ∧ RowAt w p.2.sA (cellsPr p.1.stores)
def ComR (h : List Ev) (v : Value) (w' : World) : Prop :=
 (v = .tuple #[.slice none 0 0, .int .i64 120] ∧ (splitL h = none ∨ ∃ l, splitL h = some l ∧ 500 < (l.filter fun x => !outB x).length)) ∨
 ∃ (z : List (At × Hd)) (B : Option Addr) (bc : Nat) (l : List At), splitL h = some l ∧ z.map (·.1) = l.filter (fun x => !outB x) ∧ z.length ≤ 500 ∧ v = .tuple #[.slice B z.length bc, .int .i64 0] ∧ AtsAt w' B z
theorem keepT_map (z : List (At × Hd)) : (keepT z).map (·.1) = (z.map (·.1)).filter fun x => !outB x := by
 unfold keepT
 rw [List.filter_map]; rfl
theorem committed31 (A : Option Addr) (c : Nat) (h : List Ev) (w : World) (hA : RowAt w A (cellsE h)) (hl : h.length ≤ 1000) :
  CallsV Try.prog 31 [.slice A h.length c] w fun v w' => ComR h v w' ∧ Fresh w w' := by
 refine calls_go (keep := K31) (nt := 20) (svs := [.val (.slice A h.length c)]) Try.func31 x31 n31 (by simp) (by simp [IsL, Is]) fun R hR => ?_
 (refine Y_go 600 ?_; dsimp only [X31, numF, Nat.reduceAdd, zq9r, zq9q, Y_k, zq4u, zq8p, zq6u, YK, zq8t, zq6q, zq9i, normF, zq6n, Nat.reduceBEq, zq6l, zq6k, zq6m, zq86, zq87, zq9y, t31n6, T31n6, zq8o, zq9j])
 refine call_rule (vs := [.slice A h.length c]) rfl (R := fun W v w' => (splitL h = none ∧ v = .tuple #[.slice none 0 0, .int .i64 120] ∧ Fresh W w') ∨
   (∃ (z : List (At × Hd)) (B : Option Addr) (bc : Nat), splitL h = some (z.map (·.1)) ∧ v = .tuple #[.slice B z.length bc, .int .i64 0] ∧ HeapOk ⟨W, W.heap.size, [], 67, []⟩ ([.own 75 0 11 B z.length bc (cellsTs z)] ++ famQ 114 85 z) w')) (fun W hW => split31 A c h W (hA.keep hW.fresh') hl) fun W v W' hW hr => ?_
 rcases hr with ⟨hs, hv, hf⟩ | ⟨z, B, bc, hs, hv, hh⟩
 ·refine ⟨.tup [.val (.slice none 0 0), .val (.int .i64 120)], [], by rw [hv]; simp [Is, IsL], HExt.refl _, hW.freshK hf, ?_⟩
  dsimp only [zq8t]
  (refine Y_go 600 ?_; dsimp only [Y_k, zq4u, zq8o, zq6n, Nat.reduceBEq, zq6k, YK, zq8t, zq5j, zq2f, nth, zq2e, zq6l, zq9i, normF, zq6m, zq86, zq87, zq9y, t31n5, T31n5, zq9r, zq9q, zq50, zq8p, zq6q, zq04, zq92, zq9b, zq0i, zq9d, zq9s, zq6h, zq8x, YC, t31n0, T31n0, zq6u, zq89, zq9x, zq9p, t31n4, T31n4, zq9j])
  refine ⟨fun _ => ?_, fun hb => absurd hb (by decide)⟩
  exact ret_rule (vs := [.slice none 0 0, .int .i64 120]) r31 rfl rfl fun W hW => hR _ _ ⟨.inl ⟨rfl, .inl hs⟩, hW.fresh'⟩
 ·refine ⟨.tup [.own 0 0, .val (.int .i64 0)], [.own 75 0 11 B z.length bc (cellsTs z)] ++ famQ 114 85 z, ?_, HExt.nilTo _, (HeapOk.over0 hW 67 [] rfl).heap hh, ?_⟩
  ·rw [hv]; simp only [Is, IsL]; exact ⟨_, ⟨_, _, ⟨_, _, _, _, _, _, _, rfl, Nat.le_refl _, ⟨_, _, _, rfl⟩, fun _ => rfl⟩, ⟨_, _, rfl, rfl, rfl⟩, rfl⟩, rfl⟩
  dsimp only [zq8t, List.cons_append, List.nil_append]
  (refine Y_go 600 ?_; dsimp only [Y_k, zq4u, zq8o, zq6n, Nat.reduceBEq, zq6k, YK, zq8t, zq5j, zq2f, nth, zq2e, zq6l, zq9i, normF, zq6m, zq86, zq87, zq8f, zq9y, t31n5, T31n5, zq9r, zq9q, zq50, zq8p, zq6q, zq04, zq92, zq9b, zq0i, zq9d, zq9s, zq6h, zq8x, YC, t31n0, T31n0, zq6u, zq89, zq9x, zq9p, t31n4, T31n4, zq9j])
  refine ⟨fun hb => absurd hb (by decide), fun _ => ?_⟩
  have hzl : z.length ≤ 1000 := by
   unfold splitL at hs
   cases hq : sp h h.length with
   | none => rw [hq] at hs; cases hs
   | some s =>
    rw [hq] at hs; injection hs with hs
    have hs : s.out = z.map (·.1) := hs
    have h1 : z.length = s.out.length := by rw [hs, List.length_map]
    have h2 := (sp_ok hq).len
    omega
  have hkl := keepT_len z
  have hkm := keepT_map z
  refine call_rule (vs := [.slice B z.length bc, .func (.func 51) #[] #[]]) rfl (R := fun W v W' => v = .slice B (keepT z).length bc ∧ HExt ([.own 75 0 11 B z.length bc (cellsTs z)] ++ famQ 114 85 z) ([.own 75 1 11 B (keepT z).length bc (cellsTs (keepT z))] ++ famQ 114 85 z) ∧ HeapOk ⟨w, w.heap.size, [], 20, []⟩ ([.own 75 1 11 B (keepT z).length bc (cellsTs (keepT z))] ++ famQ 114 85 z) W') (fun W hW => delete50 hW (i := 0) rfl (by omega)) fun W v W' hW ⟨hv, hx, hW'⟩ => ⟨.own 0 1, _, ?_, hx, hW', ?_⟩
  ·rw [hv]; simp only [Is]
   exact ⟨75, 1, 11, B, (keepT z).length, bc, cellsTs (keepT z), rfl, Nat.le_refl _, ⟨_, _, _, rfl⟩, fun _ => rfl⟩
  dsimp only [zq8t, List.cons_append, List.nil_append]
  (refine Y_go 600 ?_; dsimp only [Y_k, zq4u, zq8o, zq6n, Nat.reduceBEq, zq6k, YK, zq8t, zq9i, normF, zq6l, zq6m, zq86, zq8a, zq87, zq8f, zq9y, t31n3, T31n3, zq9r, zq9q, zq55, zq0t, nth, zq09, zq08, zq0q, zq50, zq8p, zq6q, zq04, zq92, zq9b, zq0i, zq9g, zq9s, zq6h, zq8x, YC, t31n1, T31n1, zq6u, zq89, zq9x, zq9p, t31n2, T31n2])
  refine ⟨fun hb => ?_, fun hb => ?_⟩
  ·have hb := of_decide_eq_true hb
   exact ret_rule (vs := [.slice none 0 0, .int .i64 120]) r31 rfl rfl fun W hW => hR _ _ ⟨.inl ⟨rfl, .inr ⟨_, hs, by rw [← hkm, List.length_map]; omega⟩⟩, hW.fresh'⟩
  ·have hb := of_decide_eq_false hb
   refine ret_rule (vs := [.slice B (keepT z).length bc, .int .i64 0]) r31 rfl rfl fun W hW => hR _ _ ⟨.inr ⟨keepT z, B, bc, _, hs, hkm, by omega, rfl, hW.rowAt' (i := 0) rfl, fun p hp => ?_⟩, hW.fresh'⟩
   have hpz : p ∈ z := (List.mem_filter.1 hp).1
   have at' : ∀ e ∈ quad 114 85 p.1 p.2, ∃ i, nth (.own 75 1 11 B (keepT z).length bc (cellsTs (keepT z)) :: famQ 114 85 z) i = some e := fun e he => by
    have hm : e ∈ SO.own 75 1 11 B (keepT z).length bc (cellsTs (keepT z)) :: famQ 114 85 z := List.mem_cons_of_mem _ (famQ_mem 114 85 hpz e he)
    obtain ⟨i, hi⟩ := List.getElem?_of_mem hm
    exact ⟨i, by rw [nth_eq]; exact hi⟩
   obtain ⟨i1, hi1⟩ := at' (.own 85 0 2 p.2.lA p.1.loads.length p.2.lc (cellsPr p.1.loads)) (by simp [quad])
   obtain ⟨i2, hi2⟩ := at' (.own 85 0 2 p.2.sA p.1.stores.length p.2.sc (cellsPr p.1.stores)) (by simp [quad])
   exact ⟨hW.rowAt' hi1, hW.rowAt' hi2⟩
end Go.Proofs.Ytbkpiljencaoeaa
