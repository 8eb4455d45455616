/- slices.Compact at numbers. -/
import Derived.Test.YtbkpiljencaoeaaGrPlain
import Derived.Test.YtbkpiljencaoeaaSxStill
import Derived.Test.YtbkpiljencaoeaaSxGhost
import Derived.Test.YtbkpiljencaoeaaGrCode
set_option linter.unusedSimpArgs false
set_option linter.unusedVariables false
set_option linter.unnecessarySimpa false
namespace Go.Proofs.Ytbkpiljencaoeaa
open Go Go.Sx Go.Gr
set_option maxRecDepth 100000
def AtI (cur : List Value) (b : Nat) (l : List Int) : Prop := ∀ j x, l[j]? = some x → cur[b + j * 1]? = some (.int .i64 x)
theorem set1_get {cu : List Value} {a : Nat} {n : Value} (h : a + 1 ≤ cu.length) (j : Nat) : (setn cu a n)[j]? = if j = a then some n else cu[j]? := by
 rw [setn_eq, List.getElem?_set]
 by_cases h1 : j = a
 ·subst h1; simp; omega
 ·rw [if_neg (fun e => h1 e.symm), if_neg h1]
theorem AtI.snoc {cu : List Value} {b : Nat} {l : List Int} {v : Int} (h : AtI cu b l) (hl : b + l.length * 1 + 1 ≤ cu.length) : AtI (setn cu (b + l.length * 1) (.int .i64 v)) b (l ++ [v]) := by
 intro j z hj
 rw [set1_get hl]
 rcases Nat.lt_trichotomy j l.length with hjl | hjl | hjl
 ·rw [List.getElem?_append_left hjl] at hj
  rw [if_neg (by omega)]
  exact h j z hj
 ·subst hjl
  simp at hj
  subst hj
  rw [if_pos rfl]
 ·rw [List.getElem?_eq_none (by simp; omega)] at hj
  cases hj
theorem opsI_nil {C : Cx} {E : Env} {k : List KI} {s : SS} (h : G C E k s) : G C E (.ops [] :: k) s := by
 intro a W rep ops ol hol
 have : ol = [] := by
  cases ol with
  | nil => rfl
  | cons x l => simp only [cmpL] at hol; split at hol <;> simp at hol
 subst this
 exact h a W rep
structure CI where
 k : Nat
 k2 : Nat
 cur : List Value
theorem compact45r {b0 : World} {N : Nat} {st : List Nat} {nt0 : Nat} {mk0 : List Nat} (g b c : Nat) (cur : List Value) (fs : List Int) (W : World) (hn : fs.length ≤ 1000000000) (h2 : fs.length ≤ c) (hc : b + c * 1 = cur.length) (hcm : c ≤ maxLen) (hcur : AtI cur b fs)
  (hW : HeapOk ⟨b0, N, st, nt0, mk0⟩ [.row g 3 cur] W) :
  CallsV Try.prog 45 [.slice (some ⟨g, b, none⟩) fs.length c] W fun v W' => v = .slice (some ⟨g, b, none⟩) (dpI fs).length c ∧ ∃ cur', cur'.length = cur.length ∧ AtI cur' b (dpI fs) ∧ HeapOk ⟨b0, N, st, nt0, mk0⟩ [.row g 3 cur'] W' := by
 refine calls_lent (keep := K45) (nt := 61) (svs := [.slc 0 b fs.length c]) Try.func45 x45 n45 (by simp) hW (by simp [IsL, Is, blk, nth]) fun R hR => ?_
 (refine Y_go 600 ?_; dsimp only [X45, numF, Nat.reduceAdd, zq9r, zq9q, Y_k, zq4u, zq8p, zq6u, YK, zq8t, zq9i, normF, zq6n, Nat.reduceBEq, zq6l, zq6k, zq6m, zq86, zq87, zq8e, zq9y, t45n15, T45n15, zq8o, zq55, zq0s, zq50, zq6q, zq04, zq92, zq9b, zq0i, zq9e, zq9s, zq6h, zq8x, YC, t45n0, T45n0, zq89, zq9x, zq9p, t45n14, T45n14, zq8a, zq9t, zq9v])
 refine ⟨fun hlt => ?_, fun hge => ?_⟩
 ·have hlt : fs.length < 2 := by have := of_decide_eq_true hlt; omega
  have hd : dpI fs = fs := by
   match fs, hlt with
   | [], _ => rfl
   | [x], _ => rfl
  refine ret_rule (vs := [.slice (some ⟨g, b, none⟩) fs.length c]) r45 rfl rfl fun W' hW' => hR _ _ ⟨by rw [hd]; rfl, cur, rfl, by rw [hd]; exact hcur, HeapOk.env (E := ⟨b0, N, st, 61, []⟩) (E' := ⟨b0, N, st, nt0, mk0⟩) rfl rfl rfl hW'⟩
 ·have hge : 2 ≤ fs.length := by have := of_decide_eq_false hge; omega
  refine loop_go (α := Nat) (fun k => 1 ≤ k ∧ k ≤ fs.length ∧ dpI (fs.take k) = fs.take k) (fun _ => ⟨b0, N, st, 61, []⟩) (fun k => { F := [(0, .slc 0 b fs.length c), (3, .val (.int .i64 (k : Int)))], H := [.row g 3 cur] }) (fun k => fs.length - k) (fun _ => rfl) ?start ?round
  case start =>
   intro a W rep
   refine ⟨1, ⟨by omega, by omega, ?_⟩, rep.le (by (simp only [setn, List.nil_append, List.cons_append, leF, leH_nil, leH_cons, leF_nil, lk, scp, scpL, scpO, resF, resH, resO, resV, resVL, nth, Nat.reduceBEq, Nat.reduceLT, decide_true, decide_false, List.length, List.length_cons, List.length_nil, Nat.reduceAdd, Bool.and_self, Bool.and_true, and_true, true_and, numF] <;> try simp)) (by (simp only [setn, List.nil_append, List.cons_append, leF, leH_nil, leH_cons, leF_nil, lk, scp, scpL, scpO, resF, resH, resO, resV, resVL, nth, Nat.reduceBEq, Nat.reduceLT, decide_true, decide_false, List.length, List.length_cons, List.length_nil, Nat.reduceAdd, Bool.and_self, Bool.and_true, and_true, true_and, numF] <;> try simp))⟩
   match fs, hge with
   | x :: y :: r, _ => rfl
  case round =>
   intro k ⟨hk1, hkn, hd⟩ I again
   (refine Y_go 600 ?_; dsimp only [zq9y, t45n12, T45n12, zq9r, zq9q, Y_k, zq4u, zq8o, zq6n, Nat.reduceBEq, zq6l, zq6k, YK, zq8t, zq55, zq0s, zq50, zq04, zq92, zq9b, zq0i, zq9e, zq9i, normF, zq6m, zq86, zq87, zq8e, zq9s, zq6h, zq8x, YC, zq9p, t45n11, T45n11, zq9t, zq58, zq06, zq0x, zq5c, zq1o, nth, zq1l, zq1c, List.nil_append, zq1b, zq18, zq4w, zq8p, zq6q, zq0e, zq9c, zq89, t45n9, T45n9, zq5o, zq3b, zq38, zq3g, zq9a, t45n8, T45n8, zq9v, zqa1, t45n10, T45n10, zq8a, zqa2, zq9u, popTo, zq6i, YP, t45n13, T45n13, zq9x])
   refine ⟨fun hlt => ?_, fun hlt => ?_⟩
   ·have hlt : k < fs.length := by have := of_decide_eq_true hlt; omega
    obtain ⟨k, rfl⟩ : ∃ m, k = m + 1 := ⟨k - 1, by omega⟩
    have hx : fs[k]? = some fs[k] := List.getElem?_eq_getElem (by omega)
    have hy : fs[k + 1]? = some fs[k + 1] := List.getElem?_eq_getElem hlt
    generalize hxx : fs[k]'(by omega) = x at hx
    generalize hyy : fs[k + 1] = y at hy
    have cx := hcur k _ hx
    have cy := hcur (k + 1) _ hy
    have e1 : ((k + 1 : Nat) : Int).toNat = k + 1 := by omega
    have e2 : (((k + 1 : Nat) : Int) - 1).toNat = k := by omega
    refine ⟨⟨by omega, by omega⟩, y, by rw [e1]; exact cy, _, ArOk.sub64 (by omega) (by omega), ⟨by omega, by omega⟩, x, by rw [e2]; exact cx, fun heq => ⟨⟨by omega, by omega⟩, ?_⟩, fun hne => ?_⟩
    ·have heq : y = x := by simpa using heq
     have heq' : x = y := heq.symm
     have hd2 : dpI (fs.take (k + 1 + 1)) = fs.take (k + 1) := by
      have := dpI_step hx hy
      rw [if_pos heq'] at this
      rw [this, hd]
     have e3 : subO b c ((k + 1 : Nat) : Int).toNat 1 = b + (k + 1) * 1 := by
      unfold subO
      rw [if_neg (by omega), e1]
     rw [e3, e1]
     refine loop_go (α := CI) (fun x => (x.k = (dpI (fs.take (k + 1 + x.k2))).length ∧ k + 1 ≤ x.k ∧ x.k ≤ k + x.k2) ∧ (1 ≤ x.k2 ∧ k + 1 + x.k2 ≤ fs.length) ∧ AtI x.cur b (dpI (fs.take (k + 1 + x.k2))) ∧ (∀ j z, k + x.k2 ≤ j → fs[j]? = some z → x.cur[b + j * 1]? = some (.int .i64 z)) ∧ x.cur.length = cur.length) (fun _ => ⟨b0, N, st, 61, []⟩)
      (fun x => { F := [(0, .slc 0 b fs.length c), (3, .val (.int .i64 (x.k : Int))), (4, .slc 0 (b + (k + 1) * 1) (fs.length - (k + 1)) (c - (k + 1))), (5, .val (.int .i64 (x.k2 : Int)))], H := [.row g 3 x.cur] }) (fun x => fs.length - x.k2) (fun _ => rfl) ?start ?round
     case start =>
      intro a W rep
      refine ⟨⟨k + 1, 1, cur⟩, ⟨⟨?_, by simp, by simp⟩, ⟨by simp, by simp; omega⟩, ?_, fun j z _ hj => hcur j z hj, rfl⟩, rep.le (by (simp only [setn, List.nil_append, List.cons_append, leF, leH_nil, leH_cons, leF_nil, lk, scp, scpL, scpO, resF, resH, resO, resV, resVL, nth, Nat.reduceBEq, Nat.reduceLT, decide_true, decide_false, List.length, List.length_cons, List.length_nil, Nat.reduceAdd, Bool.and_self, Bool.and_true, and_true, true_and, numF] <;> try simp)) (by (simp only [setn, List.nil_append, List.cons_append, leF, leH_nil, leH_cons, leF_nil, lk, scp, scpL, scpO, resF, resH, resO, resV, resVL, nth, Nat.reduceBEq, Nat.reduceLT, decide_true, decide_false, List.length, List.length_cons, List.length_nil, Nat.reduceAdd, Bool.and_self, Bool.and_true, and_true, true_and, numF] <;> try simp))⟩
      ·show k + 1 = (dpI (fs.take (k + 1 + 1))).length
       rw [hd2]; simp; omega
      ·show AtI cur b (dpI (fs.take (k + 1 + 1)))
       rw [hd2]
       intro j z hj
       rw [List.getElem?_take] at hj
       split at hj
       ·exact hcur j z hj
       ·cases hj
     case round =>
      intro x ⟨⟨q1, q2, q3⟩, ⟨q4, q5⟩, q6, q7, q8⟩ I2 again2
      obtain ⟨kk, k2, cu⟩ := x
      simp only at q1 q2 q3 q4 q5 q6 q7 q8
      (refine Y_go 14 ?_; dsimp only [zq9y, t45n5, T45n5, zq9r, zq9q, Y_k, zq4u, zq8o, zq6n, Nat.reduceBEq, zq6l, zq6k, YK, zq8t, zq55, zq0s, zq50, zq04, zq92, zq9b, zq0i, zq9e, zq9i, normF, zq6m, zq86, zq87, zq8e, zq9s, zq6h, zq8x, YC, zq9p, t45n4, T45n4, zq9t, Y_0, zq9u, popTo, zq6i, YP, t45n7, T45n7])
      refine ⟨fun hlt2 => ?_, fun hlt2 => ?_⟩
      ·have hlt2 : k + 1 + k2 < fs.length := by have := of_decide_eq_true hlt2; omega
       (refine Y_go 600 ?_; dsimp only [zq9r, zq9q, Y_k, zq4u, zq8o, zq6n, Nat.reduceBEq, zq6l, zq6k, YK, zq8t, zq58, zq06, zq0x, zq5c, zq1o, nth, zq1l, zq1c, List.nil_append, zq1b, zq18, zq4w, zq8p, zq6q, zq04, zq92, zq9b, zq0e, zq50, zq0i, zq9d, zq9i, normF, zq6m, zq87, zq89, zq86, zq8e, zq9s, zq6h, zq8x, YC, zq9y, t45n2, T45n2, zq5d, zq7u, zq73, zq0a, zq1x, zq1u, denL, den, zq1s, splice, setn, zq8s, t45n1, T45n1, zqa1, t45n3, T45n3, zqa2, zq9p, zq8a])
       have hu : fs[k + k2]? = some fs[k + k2] := List.getElem?_eq_getElem (by omega)
       have hv : fs[k + k2 + 1]? = some fs[k + k2 + 1] := List.getElem?_eq_getElem (by omega)
       generalize fs[k + k2]'(by omega) = u at hu
       generalize fs[k + k2 + 1]'(by omega) = v at hv
       have cu1 := q7 (k + k2) _ (by omega) hu
       have cv1 := q7 (k + k2 + 1) _ (by omega) hv
       have f1 : ((k2 : Nat) : Int).toNat = k2 := by omega
       have f2 : ((k2 - 1 : Nat) : Int).toNat = k2 - 1 := by omega
       have f3 : ((kk : Nat) : Int).toNat = kk := by omega
       have p1 : b + (k + 1) * 1 + k2 * 1 = b + (k + k2 + 1) * 1 := by omega
       have p2 : b + (k + 1) * 1 + (k2 - 1) * 1 = b + (k + k2) * 1 := by omega
       have w1 : k + 1 + k2 = k + k2 + 1 := by omega
       have w2 : k + 1 + (k2 + 1) = k + k2 + 2 := by omega
       have hst := dpI_step hu hv
       rw [w1] at q1 q6
       rw [f1, f3, p1]
       refine ⟨⟨by omega, by omega⟩, v, cv1, ((k2 - 1 : Nat) : Int), ArOk.toSub (by omega) (by omega) (by omega), ⟨by omega, by omega⟩, u, by rw [f2, p2]; exact cu1, fun hne => ?_, fun heq => ?_⟩
       ·have hne : ¬ u = v := by
         intro h
         simp [h] at hne
        rw [if_neg hne] at hst
        have hfit : b + kk * 1 + 1 ≤ cu.length := by omega
        refine ⟨⟨by omega, by omega⟩, v, cv1, ⟨by omega, by omega⟩, hfit, ((kk + 1 : Nat) : Int), ArOk.to (by omega) (by omega) (by omega), ((k2 + 1 : Nat) : Int), ArOk.to (by omega) (by omega) (by omega), lend_rule fun a W rep => again2 ⟨kk + 1, k2 + 1, setn cu (b + kk * 1) (.int .i64 v)⟩ ⟨⟨?_, by simp only; omega, by simp only; omega⟩, ⟨by simp only; omega, by simp only; omega⟩, ?_, ?_, ?_⟩ (by simp only; omega) a W (rep.le (by (simp only [setn, List.nil_append, List.cons_append, leF, leH_nil, leH_cons, leF_nil, lk, scp, scpL, scpO, resF, resH, resO, resV, resVL, nth, Nat.reduceBEq, Nat.reduceLT, decide_true, decide_false, List.length, List.length_cons, List.length_nil, Nat.reduceAdd, Bool.and_self, Bool.and_true, and_true, true_and, numF] <;> try simp)) (by (simp only [setn, List.nil_append, List.cons_append, leF, leH_nil, leH_cons, leF_nil, lk, scp, scpL, scpO, resF, resH, resO, resV, resVL, nth, Nat.reduceBEq, Nat.reduceLT, decide_true, decide_false, List.length, List.length_cons, List.length_nil, Nat.reduceAdd, Bool.and_self, Bool.and_true, and_true, true_and, numF] <;> try simp)))⟩
        ·show kk + 1 = (dpI (fs.take (k + 1 + (k2 + 1)))).length
         rw [w2, hst, q1]; simp
        ·show AtI _ b (dpI (fs.take (k + 1 + (k2 + 1))))
         rw [w2, hst, q1]
         exact q6.snoc (v := v) (by rw [← q1]; exact hfit)
        ·intro j z hj hz
         have hj : k + (k2 + 1) ≤ j := hj
         show (setn cu (b + kk * 1) (.int .i64 v))[b + j * 1]? = _
         rw [set1_get hfit, if_neg (by omega)]
         exact q7 j z (by omega) hz
        ·show (setn cu (b + kk * 1) (.int .i64 v)).length = _
         rw [setn_eq, List.length_set, q8]
       ·have heq : u = v := (by simpa using heq : v = u).symm
        rw [if_pos heq] at hst
        refine ⟨((k2 + 1 : Nat) : Int), ArOk.to (by omega) (by omega) (by omega), lend_rule fun a W rep => again2 ⟨kk, k2 + 1, cu⟩ ⟨⟨?_, q2, by simp only; omega⟩, ⟨by simp only; omega, by simp only; omega⟩, ?_, fun j z hj hz => q7 j z (by simp only at hj; omega) hz, q8⟩ (by simp only; omega) a W (rep.le (by (simp only [setn, List.nil_append, List.cons_append, leF, leH_nil, leH_cons, leF_nil, lk, scp, scpL, scpO, resF, resH, resO, resV, resVL, nth, Nat.reduceBEq, Nat.reduceLT, decide_true, decide_false, List.length, List.length_cons, List.length_nil, Nat.reduceAdd, Bool.and_self, Bool.and_true, and_true, true_and, numF] <;> try simp)) (by (simp only [setn, List.nil_append, List.cons_append, leF, leH_nil, leH_cons, leF_nil, lk, scp, scpL, scpO, resF, resH, resO, resV, resVL, nth, Nat.reduceBEq, Nat.reduceLT, decide_true, decide_false, List.length, List.length_cons, List.length_nil, Nat.reduceAdd, Bool.and_self, Bool.and_true, and_true, true_and, numF] <;> try simp)))⟩
        ·show kk = (dpI (fs.take (k + 1 + (k2 + 1)))).length
         rw [w2, hst]; exact q1
        ·show AtI _ b (dpI (fs.take (k + 1 + (k2 + 1))))
         rw [w2, hst]; exact q6
      ·have hlt2 : k + 1 + k2 = fs.length := by have := of_decide_eq_false hlt2; omega
       (refine Y_go 3 ?_; dsimp only [Y_k, zq4u, zq8o, zq6n, Nat.reduceBEq, zq6l, zq6k, YK, zq8t, zq5o, zq3b, zq06, zq38, zq3g, zq9a, Y_0])
       rw [hlt2, List.take_length] at q1 q6
       have f3 : ((kk : Nat) : Int).toNat = kk := by omega
       refine ⟨⟨by omega, by omega⟩, ?_⟩
       have e4 : subO b c kk 1 = b + kk * 1 := by
        unfold subO
        rw [if_neg (by omega)]
       rw [f3, e4]
       have hrl : (repN (fs.length - kk) [Value.int .i64 0]).length = (fs.length - kk) * 1 := by rw [repN_length]; rfl
       refine clr_rule (i := 0) (off := b + kk * 1) (n := fs.length - kk) (c := c - kk) rfl rfl (by omega) (by simp [Value.oneCell']) ?_
       refine opsI_nil ?_
       (refine Y_go 600 ?_; dsimp only [setn, zq9y, t45n6, T45n6, zq9r, zq9q, Y_k, zq4u, zq8o, zq6n, Nat.reduceBEq, zq6l, zq6k, YK, zq8t, zq5o, zq3a, zq39, zq06, zq37, zq3h, zq99, Int.reduceToNat, zq9i, normF, zq6m, zq86, zq8a, zq87, zq8e, zq9x])
       refine ⟨⟨by omega, by omega⟩, ?_⟩
       refine ret_rule (vs := [.slice (some ⟨g, b, none⟩) kk c]) r45 rfl ?_ fun W' hW' => hR _ _ ⟨by rw [q1]; rfl, splice cu (b + kk * 1) (repN (fs.length - kk) [Value.int .i64 0]), by rw [splice_length, q8], ?_, HeapOk.env (E := ⟨b0, N, st, 61, []⟩) (E' := ⟨b0, N, st, nt0, mk0⟩) rfl rfl rfl hW'⟩
       ·show some [Value.slice (some ⟨g, b, none⟩) (((kk : Nat) : Int).toNat - 0) (c - 0)] = _
        rw [f3]; rfl
       ·intro j z hj
        have hjl : j < kk := by
         rw [q1]
         rcases Nat.lt_or_ge j (dpI fs).length with h | h
         ·exact h
         ·rw [List.getElem?_eq_none h] at hj; cases hj
        rw [splice_get _ _ _ _ (by omega), if_neg (by omega)]
        exact q6 j z hj
    ·have hne : ¬ x = y := by
      intro h
      simp [h] at hne
     refine ⟨((k + 1 + 1 : Nat) : Int), ArOk.to (by omega) (by omega) (by omega), lend_rule fun a W rep => again (k + 1 + 1) ⟨by omega, by omega, ?_⟩ (by omega) a W (rep.le (by (simp only [setn, List.nil_append, List.cons_append, leF, leH_nil, leH_cons, leF_nil, lk, scp, scpL, scpO, resF, resH, resO, resV, resVL, nth, Nat.reduceBEq, Nat.reduceLT, decide_true, decide_false, List.length, List.length_cons, List.length_nil, Nat.reduceAdd, Bool.and_self, Bool.and_true, and_true, true_and, numF] <;> try simp)) (by (simp only [setn, List.nil_append, List.cons_append, leF, leH_nil, leH_cons, leF_nil, lk, scp, scpL, scpO, resF, resH, resO, resV, resVL, nth, Nat.reduceBEq, Nat.reduceLT, decide_true, decide_false, List.length, List.length_cons, List.length_nil, Nat.reduceAdd, Bool.and_self, Bool.and_true, and_true, true_and, numF] <;> try simp)))⟩
     have := dpI_step hx hy
     rw [if_neg hne, hd] at this
     rw [this, takeI_snoc hy]
   ·have hlt : k = fs.length := by have := of_decide_eq_false hlt; omega
    subst hlt
    have hd : dpI fs = fs := by simpa using hd
    refine ret_rule (vs := [.slice (some ⟨g, b, none⟩) fs.length c]) r45 rfl rfl fun W' hW' => hR _ _ ⟨by rw [hd]; rfl, cur, rfl, by rw [hd]; exact hcur, HeapOk.env (E := ⟨b0, N, st, 61, []⟩) (E' := ⟨b0, N, st, nt0, mk0⟩) rfl rfl rfl hW'⟩
theorem compact45_0 (A : Option Addr) (W : World) : CallsV Try.prog 45 [.slice A 0 0] W fun v W' => v = .slice A 0 0 ∧ Fresh W W' := by
 refine calls_go (keep := K45) (nt := 61) (svs := [.val (.slice A 0 0)]) Try.func45 x45 n45 (by simp) (by simp [IsL, Is]) fun R hR => ?_
 (refine Y_go 600 ?_; dsimp only [X45, numF, Nat.reduceAdd, zq9r, zq9q, Y_k, zq4u, zq8p, zq6u, YK, zq8t, zq9i, normF, zq6n, Nat.reduceBEq, zq6l, zq6k, zq6m, zq86, zq87, zq9y, t45n15, T45n15, zq8o, zq55, zq0r, zq50, zq6q, zq04, zq92, zq9b, zq0i, zq9e, zq9s, zq6h, zq8x, YC, t45n0, T45n0, zq89, zq9x, zq9p, t45n14, T45n14, zq8a, zq9t, zq9v])
 refine ⟨fun hlt => ?_, fun hge => ?_⟩
 ·exact ret_rule (vs := [.slice A 0 0]) r45 rfl rfl fun W' hW' => hR _ _ ⟨rfl, hW'.fresh'⟩
 ·cases hge
theorem AtI.take {cur : List Value} {b : Nat} {l : List Int} (h : AtI cur b l) : (cur.drop b).take (l.length * 1) = isV l := by
 apply List.ext_getElem?
 intro t
 by_cases ht : t < l.length * 1
 ·rw [List.getElem?_take, if_pos ht, List.getElem?_drop]
  have hx : l[t]? = some l[t] := List.getElem?_eq_getElem (by omega)
  have h1 := h _ _ hx
  rw [Nat.mul_one] at h1
  rw [h1, isV_get _ _ _ hx]
 ·rw [List.getElem?_eq_none (by simp; omega), List.getElem?_eq_none (by rw [isV_len]; omega)]
theorem compact45 {E : Env} {H : List SO} {W : World} {i ver : Nat} {A : Option Addr} {c : Nat} {fs : List Int} (hW : HeapOk E H W) (hi : nth H i = some (.own 3 ver 1 A fs.length c (isV fs))) (hn : fs.length ≤ 1000000000) :
  CallsV Try.prog 45 [.slice A fs.length c] W fun v W' => v = .slice A (dpI fs).length c ∧ HExt H (setn H i (.own 3 (ver + 1) 1 A (dpI fs).length c (isV (dpI fs)))) ∧ HeapOk E (setn H i (.own 3 (ver + 1) 1 A (dpI fs).length c (isV (dpI fs)))) W' := by
 have hext : HExt H (setn H i (.own 3 (ver + 1) 1 A (dpI fs).length c (isV (dpI fs)))) := HExt.setOwn hi (Nat.le_succ _) fun h => absurd h (by omega)
 have he0 := hW.ents i _ hi
 obtain ⟨hl, ⟨h1, h2, h3⟩ | ⟨g, b, cur, rfl, hg, h1, h2, h3, h4⟩⟩ := he0
 ·have h0 : fs = [] := List.length_eq_zero_iff.1 h1
  subst h0
  subst h2
  refine (compact45_0 A W).mono fun v W' ⟨hv, hf⟩ => ⟨hv, hext, ?_⟩
  refine HeapOk.set (hW.freshK hf) hi hext (fun g hg => .inl hg) (fun _ _ _ => rfl) (Nat.le_refl _) rfl rfl rfl ?_
  have := (hW.freshK hf).ents i _ hi
  exact ⟨by simp [dpI, isV], .inl ⟨rfl, rfl, fun a ha => by
   obtain ⟨_, ⟨_, _, h5⟩ | ⟨g', b', cur', e1, e2, _⟩⟩ := this
   ·exact h5 a ha
   ·rw [e1] at ha; injection ha with ha; subst ha; exact ⟨_, e2⟩⟩⟩
 ·have hg : W.heap[g]? = some (.cells cur 3 (0, 0)) := hg
  have hgl : g < W.heap.size := by
   rcases Nat.lt_or_ge g W.heap.size with h | h
   ·exact h
   ·rw [Array.getElem?_eq_none h] at hg
    cases hg
  have hcur : AtI cur.toList b fs := by
   intro j x hj
   have hjl : j < fs.length := by
    rcases Nat.lt_or_ge j fs.length with h | h
    ·exact h
    ·rw [List.getElem?_eq_none h] at hj; cases hj
   have := isV_get fs j x hj
   rw [← h4, List.getElem?_take, List.getElem?_drop, if_pos (by omega)] at this
   rw [Nat.mul_one]; exact this
  have h0 : HeapOk ⟨W, W.heap.size, [g], 0, []⟩ [.row g 3 cur.toList] W := by
   refine ⟨Keep.refl _ _, Nat.le_refl _, fun j e hj => ?_, fun j e g' hj hg' => ?_, fun j j' e e' g' hne hj hj' _ _ => ?_⟩
   ·have : j < 1 := nth_lt hj
    obtain rfl : j = 0 := by omega
    injection hj with hj; subst hj
    show W.heap[g]? = _
    rw [hg]
   ·have : j < 1 := nth_lt hj
    obtain rfl : j = 0 := by omega
    injection hj with hj; subst hj
    injection hg' with hg'; subst hg'
    exact ⟨hgl, fun ho => ho.2 (by simp)⟩
   ·have q1 : j < 1 := nth_lt hj
    have q2 : j' < 1 := nth_lt hj'
    exact absurd (show j = j' by omega) hne
  refine (compact45r g b c cur.toList fs W hn h1 (by simpa using h3) h2 hcur h0).mono fun v W' ⟨hv, cur', hl', ha', hk⟩ => ⟨hv, hext, ?_⟩
  have hold : ∀ j, j ≠ g → j < W.heap.size → Env.old ⟨W, W.heap.size, [g], 0, []⟩ j := fun j hj hlt => ⟨hlt, by simpa using hj⟩
  have hg2 : W'.heap[g]? = some (.cells cur'.toArray 3 (0, 0)) := hk.ents 0 _ rfl
  have hdl := dpI_len fs
  refine hW.set hi hext (fun g' hg' => .inl hg') (fun j hj hlt => hk.keep.block j (hold j (fun e => hj (by rw [e]; rfl)) hlt)) hk.keep.size hk.keep.os hk.keep.tape hk.keep.output ?_
  exact ⟨by rw [isV_len, Nat.mul_one], .inr ⟨g, b, cur'.toArray, rfl, hg2, by omega, h2, by simp only [List.size_toArray]; rw [hl']; simpa using h3, ha'.take⟩⟩
end Go.Proofs.Ytbkpiljencaoeaa
