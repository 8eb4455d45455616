/- graph.committed (2): slices.DeleteFunc at attempts, in place. -/
import Derived.Test.YtbkpiljencaoeaaGrT1
import Derived.Test.YtbkpiljencaoeaaGrCmp
import Derived.Test.YtbkpiljencaoeaaGrCodeT
set_option linter.unusedSimpArgs false
set_option linter.unusedVariables false
set_option linter.unnecessarySimpa false
namespace Go.Proofs.Ytbkpiljencaoeaa
open Go Go.Sx Go.Hs
set_option maxRecDepth 100000
def AtT (cur : List Value) (b : Nat) (z : List (At × Hd)) : Prop := ∀ j p k v, z[j]? = some p → (cellsT p.1 p.2)[k]? = some v → cur[b + j * 11 + k]? = some v
def keepT (z : List (At × Hd)) : List (At × Hd) := z.filter fun p => !outB p.1
theorem keepT_len (z : List (At × Hd)) : (keepT z).length ≤ z.length := List.length_filter_le _ _
theorem keepT_snoc (z : List (At × Hd)) (p : At × Hd) : keepT (z ++ [p]) = if outB p.1 then keepT z else keepT z ++ [p] := by
 unfold keepT
 rw [List.filter_append]
 cases h : outB p.1 <;> simp [h]
def setS (cu : List Value) (a : Nat) : List Value → List Value
 | [] => cu
 | v :: vs => setS (setn cu a v) (a + 1) vs
theorem setS_get : ∀ (vs : List Value) {cu : List Value} {a : Nat}, a + vs.length ≤ cu.length → (setS cu a vs).length = cu.length ∧ ∀ t, (setS cu a vs)[t]? = if a ≤ t ∧ t < a + vs.length then vs[t - a]? else cu[t]?
 | [], cu, a, h => ⟨rfl, fun t => by rw [if_neg (by simp)]; rfl⟩
 | v :: vs, cu, a, h => by
  simp only [List.length_cons] at h ⊢
  have hl : (setn cu a v).length = cu.length := by rw [setn_eq, List.length_set]
  obtain ⟨h1, h2⟩ := setS_get vs (cu := setn cu a v) (a := a + 1) (by omega)
  refine ⟨by rw [setS, h1, hl], fun t => ?_⟩
  rw [setS, h2 t]
  by_cases q : t = a
  ·subst q
   rw [if_neg (by omega), if_pos (by omega), set1_get (by omega), if_pos rfl, Nat.sub_self]; rfl
  ·by_cases q2 : a + 1 ≤ t ∧ t < a + 1 + vs.length
   ·rw [if_pos q2, if_pos (by omega)]
    have : t - a = (t - (a + 1)) + 1 := by omega
    rw [this, List.getElem?_cons_succ]
   ·rw [if_neg q2, if_neg (by omega), set1_get (by omega), if_neg q]
structure DlI where
 i : Nat
 j : Nat
 cur : List Value
theorem delete50r {b0 : World} {N : Nat} {st : List Nat} {nt0 : Nat} {mk0 : List Nat} (g b c : Nat) (cur : List Value) (z : List (At × Hd)) (W : World) (hn : z.length ≤ 1000000) (h2 : z.length ≤ c) (hc : b + c * 11 = cur.length) (hcm : c ≤ maxLen) (hcur : AtT cur b z)
  (hW : HeapOk ⟨b0, N, st, nt0, mk0⟩ [.row g 75 cur] W) (hR0 : ∀ W, HeapOk ⟨b0, N, st, 42, []⟩ [.row g 75 cur] W → RowAt W (some ⟨g, b, none⟩) (cellsTs z)) :
  CallsV Try.prog 50 [.slice (some ⟨g, b, none⟩) z.length c, .func (.func 51) #[] #[]] W fun v W' => v = .slice (some ⟨g, b, none⟩) (keepT z).length c ∧ ∃ cur', cur'.length = cur.length ∧ AtT cur' b (keepT z) ∧ HeapOk ⟨b0, N, st, nt0, mk0⟩ [.row g 75 cur'] W' := by
 refine calls_lent (keep := K50) (nt := 42) (svs := [.slc 0 b z.length c, .val (.func (.func 51) #[] #[])]) Try.func50 x50 n50 (by simp) hW (by simp [IsL, Is, blk, nth]) fun R hR => ?_
 (refine Y_go 600 ?_; dsimp only [X50, numF, Nat.reduceAdd, zq9r, zq9q, Y_k, zq4u, zq8p, zq6u, YK, zq8t, zq9i, normF, zq6n, Nat.reduceBEq, zq6l, zq6k, zq6m, zq86, zq87, zq8e, zq9y, t50n11, T50n11, zq8o, zq9j])
 refine call_val (R := fun v => v = .int .i64 (if outN z < z.length then ((outN z : Nat) : Int) else -1)) (vs := [.slice (some ⟨g, b, none⟩) z.length c, .func (.func 51) #[] #[]]) rfl (fun W hW => index68 z W (hR0 W hW) hn) fun v hv => ⟨.val (.int .i64 (if outN z < z.length then ((outN z : Nat) : Int) else -1)), by rw [hv]; simp [Is], ?_⟩
 by_cases ho : outN z < z.length
 ·rw [if_pos ho]
  dsimp only [zq8t]
  (refine Y_go 600 ?_; dsimp only [Y_k, zq4u, zq8o, zq6n, Nat.reduceBEq, zq6k, YK, zq8t, zq9i, normF, zq6l, zq6m, zq86, zq87, zq8e, zq9y, t50n10, T50n10, zq9r, zq9q, zq50, zq8p, zq6q, zq04, zq92, zq9b, zq0i, zq9c, zq9s, zq6h, zq8x, YC, t50n0, T50n0, zq89, zq9x, zq9p, t50n9, T50n9, zq4w, zq0e, zq8a, zq9t, zq9v])
  have hpre : ∀ p ∈ z.take (outN z), outB p.1 = false := fun p hp => by
   obtain ⟨j, hj⟩ := List.getElem?_of_mem hp
   rw [List.getElem?_take] at hj
   split at hj
   ·rename_i hjl
    have := List.not_of_lt_findIdx (xs := z) (p := fun p : At × Hd => outB p.1) (i := j) hjl
    obtain ⟨h8, h9⟩ := List.getElem?_eq_some_iff.1 hj
    rw [h9] at this
    simpa using this
   ·cases hj
  have hout : outB z[outN z].1 = true := List.findIdx_getElem (xs := z) (p := fun p : At × Hd => outB p.1) (w := ho)
  have hk0 : keepT (z.take (outN z + 1)) = z.take (outN z) := by
   rw [List.take_add_one, List.getElem?_eq_getElem ho]
   simp only [Option.toList_some]
   rw [keepT_snoc, if_pos hout]
   unfold keepT
   rw [List.filter_eq_self]
   intro p hp; rw [hpre p hp]; rfl
  generalize hq : outN z = q0 at *
  refine ⟨fun h => absurd (eq_of_beq h) (by omega), fun _ => ⟨((q0 + 1 : Nat) : Int), ArOk.to (by omega) (by omega) (by omega), ?_⟩⟩
  refine loop_go (α := DlI) (fun x => x.i = (keepT (z.take x.j)).length ∧ x.i < x.j ∧ x.j ≤ z.length ∧ AtT x.cur b (keepT (z.take x.j)) ∧ (∀ j p k v, x.j ≤ j → z[j]? = some p → (cellsT p.1 p.2)[k]? = some v → x.cur[b + j * 11 + k]? = some v) ∧ x.cur.length = cur.length) (fun _ => ⟨b0, N, st, 42, []⟩)
   (fun x => { F := [(0, .slc 0 b z.length c), (1, .val (.func (.func 51) #[] #[])), (5, .val (.int .i64 x.i)), (6, .val (.int .i64 x.j))], H := [.row g 75 x.cur] }) (fun x => z.length - x.j) (fun _ => rfl) ?start ?round
  case start =>
   intro a W rep
   refine ⟨⟨q0, q0 + 1, cur⟩, ⟨?_, by simp only; omega, ho, ?_, fun j p k v _ h1 h2 => hcur j p k v h1 h2, rfl⟩, rep.le (by (simp only [setn, List.nil_append, List.cons_append, leF, leH_nil, leH_cons, leF_nil, lk, scp, scpL, scpO, resF, resH, resO, resV, resVL, nth, Nat.reduceBEq, Nat.reduceLT, decide_true, decide_false, List.length, List.length_cons, List.length_nil, Nat.reduceAdd, Bool.and_self, Bool.and_true, and_true, true_and, numF] <;> try simp)) (by (simp only [setn, List.nil_append, List.cons_append, leF, leH_nil, leH_cons, leF_nil, lk, scp, scpL, scpO, resF, resH, resO, resV, resVL, nth, Nat.reduceBEq, Nat.reduceLT, decide_true, decide_false, List.length, List.length_cons, List.length_nil, Nat.reduceAdd, Bool.and_self, Bool.and_true, and_true, true_and, numF] <;> try simp))⟩
   ·simp only [hk0, List.length_take]; omega
   ·simp only [hk0]
    intro j p k v h1 h2
    rw [List.getElem?_take] at h1
    split at h1
    ·exact hcur j p k v h1 h2
    ·cases h1
  case round =>
   rintro ⟨i, j, cu⟩ ⟨h3, h4, h5, h6, h7, h8⟩ I again
   simp only at h3 h4 h5 h6 h7 h8 ⊢
   (refine Y_go 17 ?_; dsimp only [zq9y, t50n6, T50n6, zq9r, zq9q, Y_k, zq4u, zq8o, zq6n, Nat.reduceBEq, zq6l, zq6k, YK, zq8t, zq55, zq0s, zq50, zq04, zq92, zq9b, zq0i, zq9e, zq9i, normF, zq6m, zq86, zq87, zq8e, zq9s, zq6h, zq8x, YC, zq9p, t50n5, T50n5, zq9t, Y_0, zq9u, popTo, zq6i, YP, t50n8, T50n8, zq5o, zq3b, zq06, zq38, zq3g, zq9a])
   refine ⟨fun hlt => ?_, fun hge => ?_⟩
   ·have hlt : j < z.length := by have := of_decide_eq_true hlt; omega
    have hz : z[j]? = some z[j] := List.getElem?_eq_getElem hlt
    have htk : z.take (j + 1) = z.take j ++ [z[j]] := by rw [List.take_add_one, hz]; rfl
    have cl : ∀ k v, (cellsT z[j].1 z[j].2)[k]? = some v → cu[b + (j : Int).toNat * 11 + k]? = some v := fun k v hk => by
     rw [Int.toNat_natCast]; exact h7 j _ k v (Nat.le_refl _) hz hk
    generalize z[j] = p at hz htk cl
    obtain ⟨x, hd⟩ := p
    have hsn := keepT_snoc (z.take j) (x, hd)
    rw [← htk] at hsn
    (refine Y_go 600 ?_; dsimp only [Y_k, zq4u, zq8o, zq6n, Nat.reduceBEq, zq6l, zq6k, YK, zq8t, zq58, zq06, zq0x, zq5c, zq1o, nth, zq1l, zq1c, List.nil_append, List.cons_append, zq1g, zq1d, zq1b, zq17, zq5e, List.length_cons, List.length_nil, Nat.reduceAdd, List.map, zq6q, zq6u, zq6p, zq5d, zq7t, zq8l, zq73, zq8m, zq77, zq7g, zq8k, zq0a, zq1x, zq1t, dropL, takeL, zq1r, splice, setn, zq8s, zq9i, normF, zq6m, zq86, zq89, zq8c, zq87, zq8e, zq9y, t50n3, T50n3, zq9r, zq9q, zq1k, zq19, zq9k])
    refine ⟨⟨by omega, by omega⟩, _, cl 0 _ rfl, _, cl 1 _ rfl, _, cl 2 _ rfl, _, cl 3 _ rfl, _, cl 4 _ rfl, _, cl 5 _ rfl, _, cl 6 _ rfl, _, _, _, cl 7 _ rfl, _, _, _, cl 8 _ rfl, _, cl 9 _ rfl, _, cl 10 _ rfl, fun g1 => ?_⟩
    refine callv_val (R := fun v => v = .bool (outB x)) (f := 51) (fst := []) (caps := []) (vs := [valT x hd]) rfl ok51 rfl (fun W hW => out51 x hd W) fun v hv => ⟨.val (.bool (outB x)), by rw [hv]; simp [Is], ?_⟩
    dsimp only [zq8t]
    (refine Y_go 600 ?_; dsimp only [Y_k, zq53, zq8o, zq6n, Nat.reduceBEq, zq6k, zq0o, YK, zq8t, zq9i, normF, zq6l, zq6m, zq87, zq89, zq86, zq8c, zq8e, zq9s, zq6h, zq8x, YC, zq9y, t50n2, T50n2, zq9r, zq9q, zq4u, zq5c, zq1o, nth, zq1k, List.length_cons, List.length_nil, Nat.reduceAdd, dropL, takeL, zq19, zq17, zq58, zq06, zq0x, zq5d, zq7t, zq8l, zq73, zq8m, zq77, zq7g, zq8k, zq0a, zq1x, zq1u, denL, den, zq1s, splice, setn, zq8s, t50n1, T50n1, zq4w, zq8p, zq6q, zq04, zq92, zq9b, zq0e, zqa1, t50n4, T50n4, zqa2, zq9p, zq8a])
    refine ⟨fun hb => ?_, fun hb => ?_⟩
    ·have hb : outB x = false := by simpa using hb
     rw [if_neg (by rw [hb]; decide)] at hsn
     have hfit : b + i * 11 + (cellsT x hd).length ≤ cu.length := by rw [h8, ← hc]; simp only [cellsT, List.length_cons, List.length_nil]; omega
     obtain ⟨g4, g5⟩ := setS_get (cellsT x hd) hfit
     have hcl : (cellsT x hd).length = 11 := rfl
     refine ⟨⟨by omega, by omega⟩, by rw [Int.toNat_natCast]; omega, ((i + 1 : Nat) : Int), ArOk.to (by omega) (by omega) (by omega), ((j + 1 : Nat) : Int), ArOk.to (by omega) (by omega) (by omega), lend_rule fun a W rep => again ⟨i + 1, j + 1, setS cu (b + i * 11) (cellsT x hd)⟩ ⟨?_, by simp only; omega, by simp only; omega, ?_, ?_, ?_⟩ (by simp only; omega) a W ?_⟩
     ·simp only [hsn, List.length_append, List.length_singleton]; omega
     ·simp only [hsn]
      intro t p k v ht hk
      have hkl : k < 11 := (List.getElem?_eq_some_iff.1 hk).1
      rw [g5]
      by_cases ht2 : t < (keepT (z.take j)).length
      ·rw [List.getElem?_append_left ht2] at ht
       rw [if_neg (by omega)]
       exact h6 t p k v ht hk
      ·rw [List.getElem?_append_right (by omega)] at ht
       have ht3 : t = i := by
        have := (List.getElem?_eq_some_iff.1 ht).1
        simp at this; omega
       subst ht3
       rw [← h3, Nat.sub_self] at ht
       simp at ht
       subst ht
       rw [if_pos (by omega), show b + t * 11 + k - (b + t * 11) = k by omega]
       exact hk
     ·intro t p k v ht h9 hk
      simp only at ht ⊢
      have hkl : k < 11 := (List.getElem?_eq_some_iff.1 hk).1
      rw [g5, if_neg (by omega)]
      exact h7 t p k v (by omega) h9 hk
     ·simp only; rw [g4]; exact h8
     ·rw [Int.toNat_natCast] at rep
      exact rep.le (by (simp only [setn, List.nil_append, List.cons_append, leF, leH_nil, leH_cons, leF_nil, lk, scp, scpL, scpO, resF, resH, resO, resV, resVL, nth, Nat.reduceBEq, Nat.reduceLT, decide_true, decide_false, List.length, List.length_cons, List.length_nil, Nat.reduceAdd, Bool.and_self, Bool.and_true, and_true, true_and, numF] <;> try simp)) (by (simp only [setn, List.nil_append, List.cons_append, leF, leH_nil, leH_cons, leF_nil, lk, scp, scpL, scpO, resF, resH, resO, resV, resVL, nth, Nat.reduceBEq, Nat.reduceLT, decide_true, decide_false, List.length, List.length_cons, List.length_nil, Nat.reduceAdd, Bool.and_self, Bool.and_true, and_true, true_and, numF] <;> try simp); rfl)
    ·have hb : outB x = true := by simpa using hb
     rw [if_pos hb] at hsn
     refine ⟨((j + 1 : Nat) : Int), ArOk.to (by omega) (by omega) (by omega), lend_rule fun a W rep => again ⟨i, j + 1, cu⟩ ⟨by simp only [hsn]; exact h3, by simp only; omega, by simp only; omega, by simp only [hsn]; exact h6, fun t p k v ht => h7 t p k v (by simp only at ht; omega), h8⟩ (by simp only; omega) a W (rep.le (by (simp only [setn, List.nil_append, List.cons_append, leF, leH_nil, leH_cons, leF_nil, lk, scp, scpL, scpO, resF, resH, resO, resV, resVL, nth, Nat.reduceBEq, Nat.reduceLT, decide_true, decide_false, List.length, List.length_cons, List.length_nil, Nat.reduceAdd, Bool.and_self, Bool.and_true, and_true, true_and, numF] <;> try simp)) (by (simp only [setn, List.nil_append, List.cons_append, leF, leH_nil, leH_cons, leF_nil, lk, scp, scpL, scpO, resF, resH, resO, resV, resVL, nth, Nat.reduceBEq, Nat.reduceLT, decide_true, decide_false, List.length, List.length_cons, List.length_nil, Nat.reduceAdd, Bool.and_self, Bool.and_true, and_true, true_and, numF] <;> try simp)))⟩
   ·have hje : j = z.length := by have := of_decide_eq_false hge; omega
    subst hje
    rw [List.take_length] at h3 h6
    refine ⟨⟨by omega, by omega⟩, ?_⟩
    have e4 : subO b c i 11 = b + i * 11 := by
     unfold subO
     rw [if_neg (by omega)]
    rw [Int.toNat_natCast, e4]
    have hrl : (repN (z.length - i) [Value.int .i64 0, .int .i64 0, .int .i64 0, .int .i64 0, .int .i64 0, .int .i64 0, .int .i64 0, .slice none 0 0, .slice none 0 0, .bool false, .int .i64 0]).length = (z.length - i) * 11 := by rw [repN_length]; rfl
    have hmul : (z.length - i) * 11 + i * 11 = z.length * 11 := by rw [← Nat.add_mul]; congr 1; omega
    have hmul2 : z.length * 11 ≤ c * 11 := Nat.mul_le_mul_right 11 h2
    refine clr_rule (i := 0) (off := b + i * 11) (n := z.length - i) (c := c - i) rfl rfl (by omega) (by simp [Value.oneCell']) ?_
    refine opsI_nil ?_
    (refine Y_go 600 ?_; dsimp only [setn, zq9y, t50n7, T50n7, zq9r, zq9q, Y_k, zq4u, zq8o, zq6n, Nat.reduceBEq, zq6l, zq6k, YK, zq8t, zq5o, zq3a, zq39, zq06, zq37, zq3h, zq99, Int.reduceToNat, zq9i, normF, zq6m, zq86, zq8a, zq87, zq8e, zq9x])
    refine ⟨⟨by omega, by omega⟩, ?_⟩
    refine ret_rule (vs := [.slice (some ⟨g, b, none⟩) i c]) r50 rfl ?_ fun W' hW' => hR _ _ ⟨by rw [h3]; rfl, splice cu (b + i * 11) (repN (z.length - i) [Value.int .i64 0, .int .i64 0, .int .i64 0, .int .i64 0, .int .i64 0, .int .i64 0, .int .i64 0, .slice none 0 0, .slice none 0 0, .bool false, .int .i64 0]), by rw [splice_length, h8], ?_, HeapOk.env (E := ⟨b0, N, st, 42, []⟩) (E' := ⟨b0, N, st, nt0, mk0⟩) rfl rfl rfl hW'⟩
    ·show some [Value.slice (some ⟨g, b, none⟩) (((i : Nat) : Int).toNat - 0) (c - 0)] = _
     rw [Int.toNat_natCast]; rfl
    ·intro t p k v ht hk
     have hkl : k < 11 := (List.getElem?_eq_some_iff.1 hk).1
     have htl : t < i := by
      rw [h3]
      exact (List.getElem?_eq_some_iff.1 ht).1
     rw [splice_get _ _ _ _ (by omega), if_neg (by omega)]
     exact h6 t p k v ht hk
 ·rw [if_neg ho]
  dsimp only [zq8t]
  (refine Y_go 600 ?_; dsimp only [Y_k, zq4u, zq8o, zq6n, Nat.reduceBEq, zq6k, YK, zq8t, zq9i, normF, zq6l, zq6m, zq86, zq87, zq8e, zq9y, t50n10, T50n10, zq9r, zq9q, zq50, zq8p, zq6q, zq04, zq92, zq9b, zq0i, zq9c, zq9s, zq6h, zq8x, YC, t50n0, T50n0, zq89, zq9x, zq9p, t50n9, T50n9, zq4w, zq0e, zq8a, zq9t, zq9v])
  have hk : keepT z = z := by
   unfold keepT
   rw [List.filter_eq_self]
   intro p hp
   have h9 : ∀ x ∈ z, outB x.1 = false := by
    intro x hx
    refine Bool.eq_false_iff.2 fun h => ho ?_
    exact List.findIdx_lt_length_of_exists ⟨x, hx, h⟩
   rw [h9 p hp]; rfl
  refine ⟨fun _ => ?_, fun h => absurd h (by decide)⟩
  exact ret_rule (vs := [.slice (some ⟨g, b, none⟩) z.length c]) r50 rfl rfl fun W' hW' => hR _ _ ⟨by rw [hk]; rfl, cur, rfl, by rw [hk]; exact hcur, HeapOk.env (E := ⟨b0, N, st, 42, []⟩) (E' := ⟨b0, N, st, nt0, mk0⟩) rfl rfl rfl hW'⟩
theorem delete50_0 (A : Option Addr) (W : World) : CallsV Try.prog 50 [.slice A 0 0, .func (.func 51) #[] #[]] W fun v W' => v = .slice A 0 0 ∧ Fresh W W' := by
 refine calls_go (keep := K50) (nt := 42) (svs := [.val (.slice A 0 0), .val (.func (.func 51) #[] #[])]) Try.func50 x50 n50 (by simp) (by simp [IsL, Is]) fun R hR => ?_
 (refine Y_go 600 ?_; dsimp only [X50, numF, Nat.reduceAdd, zq9r, zq9q, Y_k, zq4u, zq8p, zq6u, YK, zq8t, zq9i, normF, zq6n, Nat.reduceBEq, zq6l, zq6k, zq6m, zq86, zq87, zq9y, t50n11, T50n11, zq8o, zq9j])
 refine call_val (R := fun v => v = .int .i64 (-1)) (vs := [.slice A 0 0, .func (.func 51) #[] #[]]) rfl (fun W hW => index68 (B := A) (bc := 0) [] W (fun j u hj => by cases hj) (by simp)) fun v hv => ⟨.val (.int .i64 (-1)), by rw [hv]; simp [Is], ?_⟩
 dsimp only [zq8t]
 (refine Y_go 600 ?_; dsimp only [Y_k, zq4u, zq8o, zq6n, Nat.reduceBEq, zq6k, YK, zq8t, zq9i, normF, zq6l, zq6m, zq86, zq87, zq9y, t50n10, T50n10, zq9r, zq9q, zq50, zq8p, zq6q, zq04, zq92, zq9b, zq0i, zq9c, zq9s, zq6h, zq8x, YC, t50n0, T50n0, zq89, zq9x, zq9p, t50n9, T50n9, zq4w, zq0e, zq8a, zq9t, zq9v])
 refine ⟨fun _ => ?_, fun h => absurd h (by decide)⟩
 exact ret_rule (vs := [.slice A 0 0]) r50 rfl rfl fun W' hW' => hR _ _ ⟨rfl, hW'.fresh'⟩
theorem AtT.take {cur : List Value} {b : Nat} {z : List (At × Hd)} (h : AtT cur b z) : (cur.drop b).take (z.length * 11) = cellsTs z := by
 apply List.ext_getElem?
 intro t
 by_cases ht : t < z.length * 11
 ·rw [List.getElem?_take, if_pos ht, List.getElem?_drop]
  have hq : t / 11 < z.length := by omega
  have hk : t % 11 < 11 := Nat.mod_lt _ (by decide)
  have e : t = t / 11 * 11 + t % 11 := by omega
  have h1 := cellsTs_get z hq hk
  rw [← e] at h1
  have hv : (cellsT z[t / 11].1 z[t / 11].2)[t % 11]? = some ((cellsT z[t / 11].1 z[t / 11].2)[t % 11]'hk) := List.getElem?_eq_getElem hk
  have h2 := h _ _ _ _ (List.getElem?_eq_getElem hq) hv
  rw [h1, hv, ← h2]
  congr 1; omega
 ·rw [List.getElem?_eq_none (by simp; omega), List.getElem?_eq_none (by rw [cellsTs_len]; omega)]
theorem delete50 {E : Env} {H : List SO} {W : World} {i ver : Nat} {A : Option Addr} {c : Nat} {z : List (At × Hd)} (hW : HeapOk E H W) (hi : nth H i = some (.own 75 ver 11 A z.length c (cellsTs z))) (hn : z.length ≤ 1000000) :
  CallsV Try.prog 50 [.slice A z.length c, .func (.func 51) #[] #[]] W fun v W' => v = .slice A (keepT z).length c ∧ HExt H (setn H i (.own 75 (ver + 1) 11 A (keepT z).length c (cellsTs (keepT z)))) ∧ HeapOk E (setn H i (.own 75 (ver + 1) 11 A (keepT z).length c (cellsTs (keepT z)))) W' := by
 have hext : HExt H (setn H i (.own 75 (ver + 1) 11 A (keepT z).length c (cellsTs (keepT z)))) := HExt.setOwn hi (Nat.le_succ _) fun h => absurd h (by omega)
 have he0 := hW.ents i _ hi
 obtain ⟨hl, ⟨h1, h2, h3⟩ | ⟨g, b, cur, rfl, hg, h1, h2, h3, h4⟩⟩ := he0
 ·have h0 : z = [] := List.length_eq_zero_iff.1 h1
  subst h0
  subst h2
  refine (delete50_0 A W).mono fun v W' ⟨hv, hf⟩ => ⟨hv, hext, ?_⟩
  refine HeapOk.set (hW.freshK hf) hi hext (fun g hg => .inl hg) (fun _ _ _ => rfl) (Nat.le_refl _) rfl rfl rfl ?_
  have := (hW.freshK hf).ents i _ hi
  exact ⟨by simp [keepT, cellsTs], .inl ⟨rfl, rfl, fun a ha => by
   obtain ⟨_, ⟨_, _, h5⟩ | ⟨g', b', cur', e1, e2, _⟩⟩ := this
   ·exact h5 a ha
   ·rw [e1] at ha; injection ha with ha; subst ha; exact ⟨_, e2⟩⟩⟩
 ·have hg : W.heap[g]? = some (.cells cur 75 (0, 0)) := hg
  have hgl : g < W.heap.size := by
   rcases Nat.lt_or_ge g W.heap.size with h | h
   ·exact h
   ·rw [Array.getElem?_eq_none h] at hg
    cases hg
  have hcell : ∀ t u, (cellsTs z)[t]? = some u → cur.toList[b + t]? = some u := fun t u ht => by
   have htl := (List.getElem?_eq_some_iff.1 ht).1
   rw [cellsTs_len] at htl
   rw [← h4, List.getElem?_take, List.getElem?_drop, if_pos htl] at ht
   exact ht
  have hcur : AtT cur.toList b z := by
   intro j p k v hj hk
   obtain ⟨hjl, rfl⟩ := List.getElem?_eq_some_iff.1 hj
   have hkl : k < 11 := (List.getElem?_eq_some_iff.1 hk).1
   have := hcell (j * 11 + k) v (by rw [cellsTs_get z hjl hkl]; exact hk)
   rw [Nat.add_assoc]; exact this
  have h0 : HeapOk ⟨W, W.heap.size, [g], 0, []⟩ [.row g 75 cur.toList] W := by
   refine ⟨Keep.refl _ _, Nat.le_refl _, fun j e hj => ?_, fun j e g' hj hg' => ?_, fun j j' e e' g' hne hj hj' _ _ => ?_⟩
   ·have : j < 1 := nth_lt hj
    obtain rfl : j = 0 := by omega
    injection hj with hj; subst hj
    show W.heap[g]? = _
    rw [hg]
   ·have : j < 1 := nth_lt hj
    obtain rfl : j = 0 := by omega
    injection hj with hj; subst hj
    injection hg' with hg'; subst hg'
    exact ⟨hgl, fun ho => ho.2 (by simp)⟩
   ·have q1 : j < 1 := nth_lt hj
    have q2 : j' < 1 := nth_lt hj'
    exact absurd (show j = j' by omega) hne
  refine (delete50r g b c cur.toList z W hn h1 (by simpa using h3) h2 hcur h0 fun W' hW' t u ht => ?_).mono fun v W' ⟨hv, cur', hl', ha', hk⟩ => ⟨hv, hext, ?_⟩
  ·obtain ⟨a, ha, hb, hc⟩ := (hW'.cellsRow (i := 0) rfl) (b + t) u (hcell t u ht)
   injection ha with ha; subst ha
   refine ⟨_, rfl, hb, ?_⟩
   rw [add_lit] at hc ⊢
   rw [Nat.zero_add] at hc; exact hc
  ·have hold : ∀ j, j ≠ g → j < W.heap.size → Env.old ⟨W, W.heap.size, [g], 0, []⟩ j := fun j hj hlt => ⟨hlt, by simpa using hj⟩
   have hg2 : W'.heap[g]? = some (.cells cur'.toArray 75 (0, 0)) := hk.ents 0 _ rfl
   have hdl := keepT_len z
   refine hW.set hi hext (fun g' hg' => .inl hg') (fun j hj hlt => hk.keep.block j (hold j (fun e => hj (by rw [e]; rfl)) hlt)) hk.keep.size hk.keep.os hk.keep.tape hk.keep.output ?_
   exact ⟨by rw [cellsTs_len], .inr ⟨g, b, cur'.toArray, rfl, hg2, by omega, h2, by simp only [List.size_toArray]; rw [hl']; simpa using h3, ha'.take⟩⟩
end Go.Proofs.Ytbkpiljencaoeaa
