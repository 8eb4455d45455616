/- The document's Explains. -/
import Derived.Test.YtbkpiljencaoeaaGrT11
import Derived.Test.YtbkpiljencaoeaaGrT8
import Derived.Test.YtbkpiljencaoeaaGrCodeT
set_option linter.unusedSimpArgs false
set_option linter.unusedVariables false
set_option linter.unnecessarySimpa false
namespace Go.Proofs.Ytbkpiljencaoeaa
open Go Go.Sx Go.Hs Go.Gr
set_option maxRecDepth 100000
set_option maxHeartbeats 1000000 in
theorem refexplains21 (A F O : Option Addr) (c fc oc : Nat) (h : List Ev) (first : List Int) (o : List Int) (w : World) (hA : RowAt w A (cellsE h)) (hF : RowAt w F (first.map uV)) (hO : RowAt w O (isV o))
  (hl : h.length ≤ 1000) (hfl : first.length ≤ 1000000) (hol : o.length ≤ 1000) :
  CallsV Try.prog 21 [.slice A h.length c, .slice F first.length fc, .slice O o.length oc] w fun v w' => v = .tuple #[.bool (exA h first o).1, .int .i64 (exA h first o).2] ∧ Fresh w w' := by
 refine calls_go (keep := K21) (nt := 165) (svs := [.val (.slice A h.length c), .val (.slice F first.length fc), .val (.slice O o.length oc)]) Try.func21 x21 n21 (by simp) (by simp [IsL, Is]) fun R hR => ?_
 (refine Y_go 600 ?_; dsimp only [X21, numF, Nat.reduceAdd, zq9r, zq9q, Y_k, zq4u, zq8p, zq6p, YK, zq8t, zq6q, zq9i, normF, zq6n, Nat.reduceBEq, zq6l, zq6k, zq6m, zq86, zq87, zq8a, zq9y, t21n39, T21n39, zq8o, zq9j])
 refine call_base (vs := [.slice A h.length c]) rfl (R := fun W v w' => ComP h v w' ∧ Fresh W w') (fun W hW => refcommitted33 A c h W (hA.keep hW.fresh') hl) (fun _ _ _ hr => hr.2) fun W v W3 hW ⟨hr, _⟩ ov => ?_
 rcases hr with ⟨hs, hv⟩ | ⟨z, B, bc, hs, hzl, hv, hat⟩
 ·have hx : exA h first o = (false, 120) := by unfold exA; rw [hs]
  refine ⟨.tup [.val (.slice none 0 0), .val (.int .i64 120)], by rw [hv]; simp [Is, IsL], ?_⟩
  dsimp only [zq8t]
  (refine Y_go 600 ?_; dsimp only [Y_k, zq4u, zq8o, zq6n, Nat.reduceBEq, zq6k, YK, zq8t, zq5j, zq2f, nth, zq2e, zq6l, zq9i, normF, zq6m, zq86, zq87, zq8a, zq9y, t21n38, T21n38, zq9r, zq9q, zq50, zq8p, zq6q, zq04, zq92, zq9b, zq0i, zq9d, zq9s, zq6h, zq8x, YC, t21n0, T21n0, zq6p, zq89, zq9x, zq9p, t21n37, T21n37, zq9t, zq9v])
  refine ⟨fun _ => ?_, fun hb => absurd hb (by decide)⟩
  exact ret_rule (vs := [.bool false, .int .i64 120]) r21 rfl rfl fun W hW => hR _ _ ⟨by rw [hx]; rfl, (ov.heap hW).fresh'⟩
 refine ⟨.tup [.val (.slice B z.length bc), .val (.int .i64 0)], by rw [hv]; simp [Is, IsL], ?_⟩
 obtain ⟨hrow, hats⟩ := hat
 have hxA : exA h first o = if h.any plainB = true then (false, 120) else if okO o z.length then (exM (z.map (·.1)) (begL first) o, 0) else (false, 2) := by
  unfold exA; rw [hs]
  simp only [List.length_map]
 have hpl : ∀ p ∈ z, p.1.loads.length ≤ 1000000 ∧ p.1.stores.length ≤ 1000000 := fun p hp => by
  have := comO_lens hs p.1 (List.mem_map_of_mem hp)
  omega
 have hld : ∀ p ∈ z, ∀ q ∈ p.1.loads, 0 ≤ q.1 := fun p hp => comO_ld hs p.1 (List.mem_map_of_mem hp)
 have hAE := (rowE0 hA 165 []).over ov
 have hFE := (rowE0 hF 165 []).over ov
 have hOE := (rowE0 hO 165 []).over ov
 have hBE := rowE0 hrow 165 []
 replace hats : ∀ p ∈ z, RowE ⟨W3, W3.heap.size, [], 165, []⟩ p.2.lA (cellsPr p.1.loads) ∧ RowE ⟨W3, W3.heap.size, [], 165, []⟩ p.2.sA (cellsPr p.1.stores) := fun p hp => ⟨rowE0 (hats p hp).1 165 [], rowE0 (hats p hp).2 165 []⟩
 have sA : 0 < h.length → A.isSome = true := fun h => RowE.isSome hAE (j := 0) (by rw [cellsE_len]; omega)
 have sO : 0 < o.length → O.isSome = true := fun h => RowE.isSome hOE (j := 0) (by rw [isV_len]; exact h)
 have sB : 0 < z.length → B.isSome = true := fun h => RowE.isSome hBE (j := 0) (by rw [cellsTs_len]; omega)
 clear hrow hW hv
 dsimp only [zq8t]
 (refine Y_go 600 ?_; dsimp only [Y_k, zq4u, zq8o, zq6n, Nat.reduceBEq, zq6k, YK, zq8t, zq5j, zq2f, nth, zq2e, zq6l, zq9i, normF, zq6m, zq86, zq87, zq8a, zq9y, t21n38, T21n38, zq9r, zq9q, zq50, zq8p, zq6q, zq04, zq92, zq9b, zq0i, zq9d, zq9s, zq6h, zq8x, YC, t21n0, T21n0, zq6p, zq89, zq9x, zq9p, t21n37, T21n37, zq9t, zq9v])
 refine ⟨fun hb => absurd hb (by decide), fun _ => ?_⟩
 refine loop_go (α := Nat) (fun i => i ≤ h.length ∧ ∀ e ∈ h.take i, plainB e = false) (fun _ => ⟨W3, W3.heap.size, [], 165, []⟩)
  (fun i => { F := [(0, .val (.slice A h.length c)), (1, .val (.slice F first.length fc)), (2, .val (.slice O o.length oc)), (8, .val (.slice B z.length bc)), (10, .val (.int .i64 i))], H := [] }) (fun i => h.length - i) (fun _ => rfl) ?start ?round
 case start =>
  intro a W rep
  exact ⟨0, ⟨Nat.zero_le _, by simp⟩, rep.le (by (simp only [setn, List.nil_append, List.cons_append, leF, leH_nil, leH_cons, leF_nil, lk, scp, scpL, scpO, resF, resH, resO, resV, resVL, nth, Nat.reduceBEq, Nat.reduceLT, decide_true, decide_false, List.length, List.length_cons, List.length_nil, Nat.reduceAdd, Bool.and_self, Bool.and_true, and_true, true_and, numF] <;> try simp)) (by (simp only [setn, List.nil_append, List.cons_append, leF, leH_nil, leH_cons, leF_nil, lk, scp, scpL, scpO, resF, resH, resO, resV, resVL, nth, Nat.reduceBEq, Nat.reduceLT, decide_true, decide_false, List.length, List.length_cons, List.length_nil, Nat.reduceAdd, Bool.and_self, Bool.and_true, and_true, true_and, numF] <;> try simp))⟩
 case round =>
  rintro i ⟨hi, hn⟩ I again
  (refine Y_go 600 ?_; dsimp only [zq9y, t21n4, T21n4, zq9r, zq9q, Y_k, zq4u, zq8o, zq6n, Nat.reduceBEq, zq6l, zq6k, YK, zq8t, zq55, zq0r, zq50, zq04, zq92, zq9b, zq0i, zq9e, zq9i, normF, zq6m, zq86, zq87, zq9s, zq6h, zq8x, YC, zq9p, t21n3, T21n3, zq9t, zq58, zq06, zq0w, zq5a, zq16, Nat.add_zero, zq5c, zq1p, zq1c, List.nil_append, zq1b, zq18, zq8p, zq6q, zq9c, Y_gk, zq6e, YS, zq6a, zq4v, zq6o, zq0b, zq89, zq6f, t21n1, T21n1, zq6p, zq8a, zq9x, YR, zq6c, zq0c, zqa1, t21n2, T21n2, zq4w, zq0e, zqa2, zq9u, popTo, zq6i, YP, t21n36, T21n36, zq9d, t21n5, T21n5, t21n35, T21n35, zq67, zq4t, List.length_nil, zq8f, t21n34, T21n34, zq9v])
  refine ⟨fun hlt => ?_, fun hge => ?_⟩
  ·have hlt : i < h.length := by have := of_decide_eq_true hlt; omega
   have cl : ∀ k v, (evA h i).cells[k]? = some v → CellAt ⟨W3, W3.heap.size, [], 165, []⟩ A ((i : Int).toNat * 9 + k) v := fun k v hk => evCell hAE hlt k v hk
   have htk : h.take (i + 1) = h.take i ++ [evA h i] := by rw [List.take_add_one, List.getElem?_eq_getElem hlt, evA_lt hlt]; rfl
   have hm : evA h i ∈ h := by rw [evA_lt hlt]; exact List.getElem_mem hlt
   have c0 := cl 0 _ rfl
   clear cl
   generalize evA h i = e at c0 htk hm
   have hyes : plainB e = true → ∀ s, denAll s.H s.F [6, 7] = some [.bool false, .int .i64 120] → RetG (cxOf Try.prog Try.f21 K21 T21 R) ⟨W3, W3.heap.size, [], 165, []⟩ s := fun hp s h1 => ret_rule (vs := [.bool false, .int .i64 120]) r21 rfl h1 fun W hW => hR _ _ ⟨by rw [hxA, if_pos (List.any_eq_true.2 ⟨e, hm, hp⟩)]; rfl, (ov.heap hW).fresh'⟩
   have hbd : 0 ≤ (i : Int) ∧ (i : Int) < (h.length : Int) ∧ A.isSome = true := ⟨by omega, by omega, sA (by omega)⟩
   refine ⟨hbd, sA (by omega), _, c0, fun h7 => ?_, fun h7 => ⟨hbd, sA (by omega), _, c0, fun h8 => ?_, fun h8 => ?_⟩⟩
   ·exact hyes (by unfold plainB; rw [h7]; rfl) _ rfl
   ·exact hyes (by unfold plainB; rw [h7, h8]; rfl) _ rfl
   ·refine ⟨((i + 1 : Nat) : Int), ArOk.to (by omega) (by omega) (by omega), lend_rule fun a' W rep => again (i + 1) ⟨hlt, fun p hp => ?_⟩ (by omega) a' W (rep.le (by (simp only [setn, List.nil_append, List.cons_append, leF, leH_nil, leH_cons, leF_nil, lk, scp, scpL, scpO, resF, resH, resO, resV, resVL, nth, Nat.reduceBEq, Nat.reduceLT, decide_true, decide_false, List.length, List.length_cons, List.length_nil, Nat.reduceAdd, Bool.and_self, Bool.and_true, and_true, true_and, numF] <;> try simp)) (by (simp only [setn, List.nil_append, List.cons_append, leF, leH_nil, leH_cons, leF_nil, lk, scp, scpL, scpO, resF, resH, resO, resV, resVL, nth, Nat.reduceBEq, Nat.reduceLT, decide_true, decide_false, List.length, List.length_cons, List.length_nil, Nat.reduceAdd, Bool.and_self, Bool.and_true, and_true, true_and, numF] <;> try simp)))⟩
    rw [htk] at hp
    rcases List.mem_append.1 hp with h9 | h9
    ·exact hn p h9
    ·simp only [List.mem_singleton] at h9; subst h9; unfold plainB; rw [h7, h8]; rfl
  have hil : i = h.length := by have := of_decide_eq_false hge; omega
  subst hil
  rw [List.take_of_length_le (Nat.le_refl _)] at hn
  have hno : h.any plainB = false := by rw [List.any_eq_false]; intro e he; rw [hn e he]; simp
  rw [if_neg (by rw [hno]; simp)] at hxA
  have bad : ¬ okO o z.length → ∀ (E : Env) s, E.marks = [] → Over ⟨w, w.heap.size, [], 165, []⟩ E → denAll s.H s.F [6, 7] = some [.bool false, .int .i64 2] → RetG (cxOf Try.prog Try.f21 K21 T21 R) E s := fun hno E s hm ho h1 => ret_rule (vs := [.bool false, .int .i64 2]) r21 hm h1 fun W hW => hR _ _ ⟨by rw [hxA, if_neg hno]; rfl, (ho.heap hW).fresh'⟩
  clear again I hn
  refine ⟨fun hne => bad (fun hok => ?_) _ _ rfl ov rfl, fun heq => ⟨⟨by omega, by omega, by omega, by omega⟩, fun gu => ?_⟩⟩
  ·have := hok.1
   simp [this] at hne
  have hol2 : o.length = z.length := by
   have : (o.length : Int) = z.length := by simpa using heq
   omega
  rw [Int.toNat_natCast, rwV_zero]
  refine loop_go (α := Nat) (fun i => i ≤ o.length ∧ (o.take i).Nodup ∧ ∀ x ∈ o.take i, 0 ≤ x ∧ x < (z.length : Int)) (fun _ => ⟨W3, W3.heap.size, [], 165, []⟩)
   (fun i => { F := [(1, .val (.slice F first.length fc)), (2, .val (.slice O o.length oc)), (8, .val (.slice B z.length bc)), (11, .own 0 0), (12, .val (.int .i64 i))], H := [.own 4 0 1 (some ⟨gu, 0, none⟩) z.length z.length (rwV z.length fun k => (o.take i).contains (k : Int))] }) (fun i => o.length - i) (fun _ => rfl) ?start2 ?round2
  case start2 =>
   intro a W rep
   exact ⟨0, ⟨Nat.zero_le _, by simp, by simp⟩, rep.le (by (simp only [setn, List.nil_append, List.cons_append, leF, leH_nil, leH_cons, leF_nil, lk, scp, scpL, scpO, resF, resH, resO, resV, resVL, nth, Nat.reduceBEq, Nat.reduceLT, decide_true, decide_false, List.length, List.length_cons, List.length_nil, Nat.reduceAdd, Bool.and_self, Bool.and_true, and_true, true_and, numF] <;> try simp)) (by (simp only [setn, List.nil_append, List.cons_append, leF, leH_nil, leH_cons, leF_nil, lk, scp, scpL, scpO, resF, resH, resO, resV, resVL, nth, Nat.reduceBEq, Nat.reduceLT, decide_true, decide_false, List.length, List.length_cons, List.length_nil, Nat.reduceAdd, Bool.and_self, Bool.and_true, and_true, true_and, numF] <;> try simp))⟩
  case round2 =>
   rintro i ⟨hi, hnd, hrg⟩ I again
   (refine Y_go 600 ?_; dsimp only [zq9y, t21n10, T21n10, zq9r, zq9q, Y_k, zq4u, zq8o, zq6n, Nat.reduceBEq, zq6l, zq6k, YK, zq8t, zq55, zq0r, zq50, zq04, zq92, zq9b, zq0i, zq9e, zq9i, normF, zq6m, zq86, zq87, zq8f, zq9s, zq6h, zq8x, YC, zq9p, t21n9, T21n9, zq9t, zq58, zq06, zq0w, zq5c, zq1p, zq1c, List.nil_append, zq1b, zq18, zq8p, zq6q, Y_gk, zq6e, YS, zq6a, zq4v, zq6o, zq0b, zq89, zq6f, t21n6, T21n6, zq6p, zq8a, zq9x, YR, zq6c, zq9h, zq0c, zq0y, nth, zq09, zq08, zq0v, zq1q, zq1n, zq1d, t21n7, T21n7, zq5d, zq7v, zq7h, zq0a, zq1y, zq1w, denL, den, zq1v, splice, setn, zq8s, zqa1, t21n8, T21n8, zq4w, zq0e, zqa2, zq9u, popTo, zq6i, YP, t21n33, T21n33, zq9v])
   refine ⟨fun hlt => ?_, fun hge => ?_⟩
   ·have hlt : i < o.length := by have := of_decide_eq_true hlt; omega
    have cO : CellAt ⟨W3, W3.heap.size, [], 165, []⟩ O ((i : Int).toNat * 1) (.int .i64 o[i]) := by rw [Int.toNat_natCast, Nat.mul_one]; exact hOE.cell (isV_get _ _ _ (List.getElem?_eq_getElem hlt))
    have htk : o.take (i + 1) = o.take i ++ [o[i]] := by rw [List.take_add_one, List.getElem?_eq_getElem hlt]; rfl
    have hsub : ∀ m, (o.take m).Sublist o := fun m => List.take_sublist m o
    have hbd : 0 ≤ (i : Int) ∧ (i : Int) < (o.length : Int) ∧ O.isSome = true := ⟨by omega, by omega, sO (by omega)⟩
    have hmem := List.getElem_mem hlt
    have nok : (o[i] ∈ o.take i) → ¬ okO o z.length := fun hm hok => by
     have := (hsub (i + 1)).nodup hok.2.1
     rw [htk, List.nodup_append] at this
     exact this.2.2 _ hm _ (by simp) rfl
    generalize o[i] = n at cO htk hmem nok
    refine ⟨hbd, n, cO, fun hneg => ?_, fun hpos => ⟨hbd, n, cO, fun hbig => ?_, fun hsm => ?_⟩⟩
    ·refine bad (fun hok => ?_) _ _ rfl ov rfl
     have := (hok.2.2 n hmem).1
     have := of_decide_eq_true hneg
     omega
    ·refine bad (fun hok => ?_) _ _ rfl ov rfl
     have := (hok.2.2 n hmem).2
     have := of_decide_eq_true hbig
     omega
    have hpos := of_decide_eq_false hpos
    have hsm := of_decide_eq_false hsm
    obtain ⟨n, rfl⟩ : ∃ k : Nat, (k : Int) = n := ⟨n.toNat, by omega⟩
    have hnz : n < z.length := by omega
    refine ⟨hbd, (n : Int), cO, ⟨by omega, by omega⟩, (o.take i).contains (n : Int), ?_, fun hu => ?_, fun hu => ⟨hbd, (n : Int), cO, ⟨by omega, by omega⟩, ?_, ?_⟩⟩
    ·rw [Int.toNat_natCast, Nat.mul_one]; exact rwV_get _ hnz
    ·refine bad (nok ?_) _ _ rfl ov rfl
     simpa using hu
    ·rw [rwV_len, Int.toNat_natCast]; omega
    ·refine ⟨((i + 1 : Nat) : Int), ArOk.to (by omega) (by omega) (by omega), lend_rule fun a W rep => again (i + 1) ⟨hlt, ?_, ?_⟩ (by omega) a W ?_⟩
     ·rw [htk, List.nodup_append]
      refine ⟨hnd, by simp, fun x hx y hy => ?_⟩
      simp only [List.mem_singleton] at hy
      subst hy
      rintro rfl
      simp at hu; exact hu hx
     ·rw [htk]
      intro x hx
      rcases List.mem_append.1 hx with h9 | h9
      ·exact hrg x h9
      ·simp only [List.mem_singleton] at h9; subst h9; omega
     ·rw [Int.toNat_natCast, Nat.mul_one, rwV_set _ _ hnz] at rep
      have e : (rwV z.length fun k => if k = n then true else (o.take i).contains (k : Int)) = rwV z.length fun k => (o.take (i + 1)).contains (k : Int) := rwV_congr fun k _ => by
       rw [htk]
       by_cases e : k = n
       ·subst e; simp
       ·rw [if_neg e]
        simp only [List.contains_eq_mem, List.mem_append, List.mem_singleton]
        have : ¬ (k : Int) = n := by omega
        simp [this]
      rw [e] at rep
      exact rep.res.le (by (simp only [setn, List.nil_append, List.cons_append, leF, leH_nil, leH_cons, leF_nil, lk, scp, scpL, scpO, resF, resH, resO, resV, resVL, nth, Nat.reduceBEq, Nat.reduceLT, decide_true, decide_false, List.length, List.length_cons, List.length_nil, Nat.reduceAdd, Bool.and_self, Bool.and_true, and_true, true_and, numF] <;> try simp)) (by (simp only [setn, List.nil_append, List.cons_append, leF, leH_nil, leH_cons, leF_nil, lk, scp, scpL, scpO, resF, resH, resO, resV, resVL, nth, Nat.reduceBEq, Nat.reduceLT, decide_true, decide_false, List.length, List.length_cons, List.length_nil, Nat.reduceAdd, Bool.and_self, Bool.and_true, and_true, true_and, numF] <;> try simp))
   have hie : i = o.length := by have := of_decide_eq_false hge; omega
   subst hie
   rw [List.take_of_length_le (Nat.le_refl _)] at hnd hrg
   have hok : okO o z.length := ⟨hol2, hnd, hrg⟩
   rw [if_pos hok] at hxA
   clear again I bad
   refine loop_go (α := Nat) (fun i => i ≤ o.length ∧ exM (z.map (·.1)) (begL first) o = exM (z.map (·.1)) (putAll (begL first) (stF (z.map (·.1)) o i)) (o.drop i)) (fun _ => ⟨W3, W3.heap.size, [], 165, []⟩)
    (fun i => { F := [(1, .val (.slice F first.length fc)), (2, .val (.slice O o.length oc)), (8, .val (.slice B z.length bc)), (13, .val (.int .i64 i))], H := [] }) (fun i => o.length - i) (fun _ => rfl) ?start3 ?round3
   case start3 =>
    intro a W rep
    exact ⟨0, ⟨Nat.zero_le _, rfl⟩, rep.le (by (simp only [setn, List.nil_append, List.cons_append, leF, leH_nil, leH_cons, leF_nil, lk, scp, scpL, scpO, resF, resH, resO, resV, resVL, nth, Nat.reduceBEq, Nat.reduceLT, decide_true, decide_false, List.length, List.length_cons, List.length_nil, Nat.reduceAdd, Bool.and_self, Bool.and_true, and_true, true_and, numF] <;> try simp)) (by (simp only [setn, List.nil_append, List.cons_append, leF, leH_nil, leH_cons, leF_nil, lk, scp, scpL, scpO, resF, resH, resO, resV, resVL, nth, Nat.reduceBEq, Nat.reduceLT, decide_true, decide_false, List.length, List.length_cons, List.length_nil, Nat.reduceAdd, Bool.and_self, Bool.and_true, and_true, true_and, numF] <;> try simp))⟩
   case round3 =>
    rintro i ⟨hi, hm⟩ I again
    (refine Y_go 600 ?_; dsimp only [zq9y, t21n31, T21n31, zq9r, zq9q, Y_k, zq4u, zq8o, zq6n, Nat.reduceBEq, zq6l, zq6k, YK, zq8t, zq55, zq0r, zq50, zq04, zq92, zq9b, zq0i, zq9e, zq9i, normF, zq6m, zq86, zq87, zq9s, zq6h, zq8x, YC, zq9p, t21n30, T21n30, zq9t, zq58, zq06, zq0w, zq5c, zq1p, zq1c, List.nil_append, zq1b, zq18, List.cons_append, zq1g, zq1d, zq17, zq5e, List.length_nil, List.map, zq6q, zq6u, zq6p, zq5d, zq7t, List.length_cons, Nat.reduceAdd, zq8l, zq73, zq8m, zq77, zq7g, zq8k, zq0a, zq1x, nth, zq1t, dropL, takeL, zq1r, splice, setn, zq8s, zq89, zq8c, t21n28, T21n28, zq8p, zq9v, zq9u, popTo, zq6i, YP, t21n32, T21n32, zq6o, zq8a, zq9x])
    refine ⟨fun hlt => ?_, fun hge => ?_⟩
    rotate_left
    ·have hie : i = o.length := by have := of_decide_eq_false hge; omega
     subst hie
     refine ret_rule (vs := [.bool true, .int .i64 0]) r21 rfl rfl fun W hW => hR _ _ ⟨?_, (ov.heap hW).fresh'⟩
     rw [hxA, hm, List.drop_length]; rfl
    have hlt : i < o.length := by have := of_decide_eq_true hlt; omega
    have hdrop : o.drop i = o[i] :: o.drop (i + 1) := List.drop_eq_getElem_cons hlt
    have cO : CellAt ⟨W3, W3.heap.size, [], 165, []⟩ O ((i : Int).toNat * 1) (.int .i64 o[i]) := by rw [Int.toNat_natCast, Nat.mul_one]; exact hOE.cell (isV_get _ _ _ (List.getElem?_eq_getElem hlt))
    have hrng := hok.2.2 _ (List.getElem_mem hlt)
    have hst := stF_succ (z.map (·.1)) o hlt
    rw [hdrop] at hm
    generalize o[i] = n at cO hrng hm hst
    obtain ⟨n, rfl⟩ : ∃ k : Nat, (k : Int) = n := ⟨n.toNat, by omega⟩
    have hnz : n < z.length := by omega
    have cl : ∀ k v, (cellsT z[n].1 z[n].2)[k]? = some v → CellAt ⟨W3, W3.heap.size, [], 165, []⟩ B ((n : Int).toNat * 11 + k) v := by
     intro k v hk
     have := (List.getElem?_eq_some_iff.1 hk).1
     rw [Int.toNat_natCast]
     exact hBE.cell (by rw [cellsTs_get z hnz this]; exact hk)
    have hgx : (z.map (·.1)).getD (n : Int).toNat default = z[n].1 := by
     rw [Int.toNat_natCast, List.getD_eq_getElem?_getD, List.getElem?_map, List.getElem?_eq_getElem hnz]; rfl
    obtain ⟨hxl, hxs⟩ := hats _ (List.getElem_mem hnz)
    have hlen := hpl _ (List.getElem_mem hnz)
    have hld1 := hld _ (List.getElem_mem hnz)
    generalize z[n] = px at cl hgx hxl hxs hlen hld1
    obtain ⟨x, hx⟩ := px
    simp only at cl hgx hxl hxs hlen hld1
    rw [hgx] at hst
    have hm1 : ∀ m, exM (z.map (·.1)) m ((n : Int) :: o.drop (i + 1)) = ((x.loads.all fun p => memF m p.1 == p.2) && exM (z.map (·.1)) (putAll m x.stores) (o.drop (i + 1))) := fun m => by
     simp only [exM]; rw [hgx]
    rw [hm1] at hm
    refine ⟨⟨by omega, by omega, sO (by omega)⟩, _, cO, ⟨by omega, by omega, sB (by omega)⟩, _, cl 0 _ rfl, _, cl 1 _ rfl, _, cl 2 _ rfl, _, cl 3 _ rfl, _, cl 4 _ rfl, _, cl 5 _ rfl, _, cl 6 _ rfl, _, _, _, cl 7 _ rfl, _, _, _, cl 8 _ rfl, _, cl 9 _ rfl, _, cl 10 _ rfl, fun ga => ?_⟩
    clear cl
    refine loop_go (α := Nat) (fun k => k ≤ x.loads.length ∧ ∀ p ∈ x.loads.take k, (memF (putAll (begL first) (stF (z.map (·.1)) o i)) p.1 == p.2) = true) (fun _ => ⟨W3, W3.heap.size, [], 165, []⟩)
     (fun k => { F := [(1, .val (.slice F first.length fc)), (2, .val (.slice O o.length oc)), (8, .val (.slice B z.length bc)), (13, .val (.int .i64 i)), (14, .ptr 0 0), (15, .val (.int .i64 k))], H := [.cells ga 75 (svL x hx)] }) (fun k => x.loads.length - k) (fun _ => rfl) ?start4 ?round4
    case start4 =>
     intro a W rep
     exact ⟨0, ⟨Nat.zero_le _, by simp⟩, rep.le (by (simp only [setn, List.nil_append, List.cons_append, leF, leH_nil, leH_cons, leF_nil, lk, scp, scpL, scpO, resF, resH, resO, resV, resVL, nth, Nat.reduceBEq, Nat.reduceLT, decide_true, decide_false, List.length, List.length_cons, List.length_nil, Nat.reduceAdd, Bool.and_self, Bool.and_true, and_true, true_and, numF] <;> try simp)) (by simp only [svL]; (simp only [setn, List.nil_append, List.cons_append, leF, leH_nil, leH_cons, leF_nil, lk, scp, scpL, scpO, resF, resH, resO, resV, resVL, nth, Nat.reduceBEq, Nat.reduceLT, decide_true, decide_false, List.length, List.length_cons, List.length_nil, Nat.reduceAdd, Bool.and_self, Bool.and_true, and_true, true_and, numF] <;> try simp))⟩
    case round4 =>
     rintro k ⟨hk, hkm⟩ I4 again4
     (refine Y_go 600 ?_; dsimp only [svL, zq9y, t21n27, T21n27, zq9r, zq9q, Y_k, zq4u, zq8o, zq6n, Nat.reduceBEq, zq6l, zq6k, YK, zq8t, zq5a, zq14, Nat.reduceAdd, zq5c, zq1o, nth, zq1k, List.length_cons, List.length_nil, dropL, takeL, zq19, zq18, zq55, zq0r, zq50, zq04, zq92, zq9b, zq0i, zq9e, zq9i, normF, zq6m, zq86, zq87, zq8c, zq9s, zq6h, zq8x, YC, zq9p, t21n26, T21n26, zq9t, zq58, zq06, zq0w, zq16, Nat.add_zero, zq1p, zq1c, List.nil_append, zq1b, zq89, t21n24, T21n24, zq8p, zq6q, t21n23, T21n23, t21n11, T21n11, t21n22, T21n22, zq9v, zq8a, zq9u, popTo, zq6i, YP, zqa1, t21n29, T21n29, zq4w, zq0e, zqa2])
     refine ⟨fun hlt4 => ?_, fun hge => ?_⟩
     rotate_left
     ·have hke : k = x.loads.length := by have := of_decide_eq_false hge; omega
      subst hke
      rw [List.take_of_length_le (Nat.le_refl _)] at hkm
      have hall : (x.loads.all fun p => memF (putAll (begL first) (stF (z.map (·.1)) o i)) p.1 == p.2) = true := List.all_eq_true.2 hkm
      rw [hall, Bool.true_and, ← putAll_app, ← hst] at hm
      exact ⟨((i + 1 : Nat) : Int), ArOk.to (by omega) (by omega) (by omega), lend_rule fun a W rep => again (i + 1) ⟨hlt, hm⟩ (by show o.length - (i + 1) < o.length - i; omega) a W (rep.le (by (simp only [setn, List.nil_append, List.cons_append, leF, leH_nil, leH_cons, leF_nil, lk, scp, scpL, scpO, resF, resH, resO, resV, resVL, nth, Nat.reduceBEq, Nat.reduceLT, decide_true, decide_false, List.length, List.length_cons, List.length_nil, Nat.reduceAdd, Bool.and_self, Bool.and_true, and_true, true_and, numF] <;> try simp)) (by (simp only [setn, List.nil_append, List.cons_append, leF, leH_nil, leH_cons, leF_nil, lk, scp, scpL, scpO, resF, resH, resO, resV, resVL, nth, Nat.reduceBEq, Nat.reduceLT, decide_true, decide_false, List.length, List.length_cons, List.length_nil, Nat.reduceAdd, Bool.and_self, Bool.and_true, and_true, true_and, numF] <;> try simp)))⟩
     have hlt4 : k < x.loads.length := by have := of_decide_eq_true hlt4; omega
     have c0 : CellAt ⟨W3, W3.heap.size, [], 165, []⟩ hx.lA ((k : Int).toNat * 2) (.int .i64 x.loads[k].1) := by
      rw [Int.toNat_natCast]
      exact hxl.cell (by rw [show k * 2 = k * 2 + 0 by omega, cellsPr_get _ hlt4 (by omega)]; rfl)
     have c1 : CellAt ⟨W3, W3.heap.size, [], 165, []⟩ hx.lA ((k : Int).toNat * 2 + 1) (.int .u64 x.loads[k].2) := by
      rw [Int.toNat_natCast]
      exact hxl.cell (by rw [cellsPr_get _ hlt4 (by omega)]; rfl)
     have htk : x.loads.take (k + 1) = x.loads.take k ++ [x.loads[k]] := by rw [List.take_add_one, List.getElem?_eq_getElem hlt4]; rfl
     have hmem := List.getElem_mem hlt4
     have sL : hx.lA.isSome = true := RowE.isSome hxl (j := k * 2) (by rw [cellsPr_len]; omega)
     generalize x.loads[k] = p at c0 c1 htk hmem
     have hp0 := hld1 p hmem
     have hbk : 0 ≤ (k : Int) ∧ (k : Int) < (x.loads.length : Int) ∧ hx.lA.isSome = true := ⟨by omega, by omega, sL⟩
     have raw : G (cxOf Try.prog Try.f21 K21 T21 R) ⟨W3, W3.heap.size, [], 165, []⟩ [.code (.loop (.ref 19)), .blk 8, .code (.ref 21), .blk 7, .code (.ref 25), .lend I4, .blk 6, .blk 5, .code (.ref 29), .lend I, .blk 4, .code (.ref 32)]
       { F := [(1, .val (.slice F first.length fc)), (2, .val (.slice O o.length oc)), (8, .val (.slice B z.length bc)), (13, .val (.int .i64 i)), (14, .ptr 0 0), (15, .val (.int .i64 k)), (16, .val (.int .i64 p.1)), (17, .val (.int .u64 (firF first p.1))), (18, .val (.int .i64 0))], H := [.cells ga 75 (svL x hx)] } := by
      refine loop_go (α := Nat) (fun j => j ≤ i) (fun _ => ⟨W3, W3.heap.size, [], 165, []⟩)
       (fun j => { F := [(1, .val (.slice F first.length fc)), (2, .val (.slice O o.length oc)), (8, .val (.slice B z.length bc)), (13, .val (.int .i64 i)), (14, .ptr 0 0), (15, .val (.int .i64 k)), (16, .val (.int .i64 p.1)), (17, .val (.int .u64 (lastV p.1 (firF first p.1) (stF (z.map (·.1)) o j)))), (18, .val (.int .i64 j))], H := [.cells ga 75 (svL x hx)] }) (fun j => i - j) (fun _ => rfl) ?start5 ?round5
      case start5 =>
       intro a W rep
       exact ⟨0, Nat.zero_le _, rep.le (by (simp only [setn, List.nil_append, List.cons_append, leF, leH_nil, leH_cons, leF_nil, lk, scp, scpL, scpO, resF, resH, resO, resV, resVL, nth, Nat.reduceBEq, Nat.reduceLT, decide_true, decide_false, List.length, List.length_cons, List.length_nil, Nat.reduceAdd, Bool.and_self, Bool.and_true, and_true, true_and, numF] <;> try simp); rfl) (by simp only [svL]; (simp only [setn, List.nil_append, List.cons_append, leF, leH_nil, leH_cons, leF_nil, lk, scp, scpL, scpO, resF, resH, resO, resV, resVL, nth, Nat.reduceBEq, Nat.reduceLT, decide_true, decide_false, List.length, List.length_cons, List.length_nil, Nat.reduceAdd, Bool.and_self, Bool.and_true, and_true, true_and, numF] <;> try simp))⟩
      case round5 =>
       rintro j hj I5 again5
       (refine Y_go 600 ?_; dsimp only [svL, zq9y, t21n19, T21n19, zq9r, zq9q, Y_k, zq4u, zq8o, zq6n, Nat.reduceBEq, zq6l, zq6k, YK, zq8t, zq50, zq04, zq92, zq9b, zq0i, zq9e, zq9i, normF, zq6m, zq86, zq87, zq8c, zq9s, zq6h, zq8x, YC, zq9p, t21n18, T21n18, zq9t, zq58, zq06, zq0w, zq5c, zq1p, zq1c, List.nil_append, zq1b, zq18, zq5a, zq16, zq1g, zq89, t21n16, T21n16, zq8p, zq6q, zq9v, zq9u, popTo, zq6i, YP, t21n21, T21n21, zq14, Nat.reduceAdd, zq1o, nth, zq1k, List.length_cons, List.length_nil, dropL, takeL, zq19, zq96, zq9d, zq8a, t21n20, T21n20, zq6p, zq9x, zqa1, t21n25, T21n25, zq4w, zq0e, zqa2])
       refine ⟨fun hlt5 => ?_, fun hge => ?_⟩
       rotate_left
       ·have hje : j = i := by have := of_decide_eq_false hge; omega
        subst hje
        have hval : lastV p.1 (firF first p.1) (stF (z.map (·.1)) o j) = memF (putAll (begL first) (stF (z.map (·.1)) o j)) p.1 := by rw [memF_putAll, begL_F]
        rw [hval]
        refine ⟨hbk, sL, _, c1, fun hb => ?_, fun hb => ?_⟩
        ·refine ret_rule (vs := [.bool false, .int .i64 0]) r21 rfl rfl fun W hW => hR _ _ ⟨?_, (ov.heap hW).fresh'⟩
         have hall : (x.loads.all fun p => memF (putAll (begL first) (stF (z.map (·.1)) o j)) p.1 == p.2) = false := by
          rw [List.all_eq_false]
          exact ⟨p, hmem, by simpa using hb⟩
         rw [hxA, hm, hall]; rfl
        ·refine ⟨((k + 1 : Nat) : Int), ArOk.to (by omega) (by omega) (by omega), lend_rule fun a W rep => again4 (k + 1) ⟨hlt4, fun q hq => ?_⟩ (by omega) a W (rep.le (by (simp only [setn, List.nil_append, List.cons_append, leF, leH_nil, leH_cons, leF_nil, lk, scp, scpL, scpO, resF, resH, resO, resV, resVL, nth, Nat.reduceBEq, Nat.reduceLT, decide_true, decide_false, List.length, List.length_cons, List.length_nil, Nat.reduceAdd, Bool.and_self, Bool.and_true, and_true, true_and, numF] <;> try simp)) (by simp only [svL]; (simp only [setn, List.nil_append, List.cons_append, leF, leH_nil, leH_cons, leF_nil, lk, scp, scpL, scpO, resF, resH, resO, resV, resVL, nth, Nat.reduceBEq, Nat.reduceLT, decide_true, decide_false, List.length, List.length_cons, List.length_nil, Nat.reduceAdd, Bool.and_self, Bool.and_true, and_true, true_and, numF] <;> try simp)))⟩
         rw [htk] at hq
         rcases List.mem_append.1 hq with h9 | h9
         ·exact hkm q h9
         ·simp only [List.mem_singleton] at h9; subst h9
          simpa using hb
       have hlt5 : j < i := by have := of_decide_eq_true hlt5; omega
       have hjo : j < o.length := by omega
       have cj : CellAt ⟨W3, W3.heap.size, [], 165, []⟩ O ((j : Int).toNat * 1) (.int .i64 o[j]) := by rw [Int.toNat_natCast, Nat.mul_one]; exact hOE.cell (isV_get _ _ _ (List.getElem?_eq_getElem hjo))
       have hrngj := hok.2.2 _ (List.getElem_mem hjo)
       have hstj := stF_succ (z.map (·.1)) o hjo
       generalize o[j] = n2 at cj hrngj hstj
       obtain ⟨n2, rfl⟩ : ∃ k : Nat, (k : Int) = n2 := ⟨n2.toNat, by omega⟩
       have hnz2 : n2 < z.length := by omega
       have c8 : CellAt ⟨W3, W3.heap.size, [], 165, []⟩ B ((n2 : Int).toNat * 11 + 8) (.slice z[n2].2.sA z[n2].1.stores.length z[n2].2.sc) := by
        rw [Int.toNat_natCast]
        exact hBE.cell (by rw [cellsTs_get z hnz2 (by omega)]; rfl)
       have hgx2 : (z.map (·.1)).getD (n2 : Int).toNat default = z[n2].1 := by
        rw [Int.toNat_natCast, List.getD_eq_getElem?_getD, List.getElem?_map, List.getElem?_eq_getElem hnz2]; rfl
       obtain ⟨_, hys⟩ := hats _ (List.getElem_mem hnz2)
       have hleny := hpl _ (List.getElem_mem hnz2)
       generalize z[n2] = py at c8 hgx2 hys hleny
       obtain ⟨y, hy⟩ := py
       simp only at c8 hgx2 hys hleny
       rw [hgx2] at hstj
       refine ⟨⟨by omega, by omega, sO (by omega)⟩, _, cj, ⟨by omega, by omega, sB (by omega)⟩, sB (by omega), _, _, _, c8, ?_⟩
       refine loop_go (α := Nat) (fun q => q ≤ y.stores.length) (fun _ => ⟨W3, W3.heap.size, [], 165, []⟩)
        (fun q => { F := [(1, .val (.slice F first.length fc)), (2, .val (.slice O o.length oc)), (8, .val (.slice B z.length bc)), (13, .val (.int .i64 i)), (14, .ptr 0 0), (15, .val (.int .i64 k)), (16, .val (.int .i64 p.1)), (17, .val (.int .u64 (lastV p.1 (firF first p.1) (stF (z.map (·.1)) o j ++ y.stores.take q)))), (18, .val (.int .i64 j)), (19, .val (.slice hy.sA y.stores.length hy.sc)), (20, .val (.int .i64 q))], H := [.cells ga 75 (svL x hx)] }) (fun q => y.stores.length - q) (fun _ => rfl) ?start6 ?round6
       case start6 =>
        intro a W rep
        exact ⟨0, Nat.zero_le _, rep.le (by (simp only [setn, List.nil_append, List.cons_append, leF, leH_nil, leH_cons, leF_nil, lk, scp, scpL, scpO, resF, resH, resO, resV, resVL, nth, Nat.reduceBEq, Nat.reduceLT, decide_true, decide_false, List.length, List.length_cons, List.length_nil, Nat.reduceAdd, Bool.and_self, Bool.and_true, and_true, true_and, numF] <;> try simp)) (by simp only [svL]; (simp only [setn, List.nil_append, List.cons_append, leF, leH_nil, leH_cons, leF_nil, lk, scp, scpL, scpO, resF, resH, resO, resV, resVL, nth, Nat.reduceBEq, Nat.reduceLT, decide_true, decide_false, List.length, List.length_cons, List.length_nil, Nat.reduceAdd, Bool.and_self, Bool.and_true, and_true, true_and, numF] <;> try simp))⟩
       case round6 =>
        rintro q hq I6 again6
        (refine Y_go 600 ?_; dsimp only [svL, zq9y, t21n15, T21n15, zq9r, zq9q, Y_k, zq4u, zq8o, zq6n, Nat.reduceBEq, zq6l, zq6k, YK, zq8t, zq55, zq0r, zq50, zq04, zq92, zq9b, zq0i, zq9e, zq9i, normF, zq6m, zq86, zq87, zq8c, zq9s, zq6h, zq8x, YC, zq9p, t21n14, T21n14, zq9t, zq58, zq06, zq0w, zq5a, zq16, Nat.add_zero, zq5c, zq1p, zq1c, List.nil_append, zq1b, zq18, zq9c, zq89, t21n12, T21n12, zqa1, t21n13, T21n13, zq4w, zq8p, zq6q, zq0e, zqa2, zq8a, zq9u, popTo, zq6i, YP, t21n17, T21n17])
        refine ⟨fun hlt6 => ?_, fun hge => ?_⟩
        rotate_left
        ·have hqe : q = y.stores.length := by have := of_decide_eq_false hge; omega
         subst hqe
         rw [List.take_of_length_le (Nat.le_refl _), ← hstj]
         exact ⟨((j + 1 : Nat) : Int), ArOk.to (by omega) (by omega) (by omega), lend_rule fun a W rep => again5 (j + 1) hlt5 (by omega) a W (rep.le (by (simp only [setn, List.nil_append, List.cons_append, leF, leH_nil, leH_cons, leF_nil, lk, scp, scpL, scpO, resF, resH, resO, resV, resVL, nth, Nat.reduceBEq, Nat.reduceLT, decide_true, decide_false, List.length, List.length_cons, List.length_nil, Nat.reduceAdd, Bool.and_self, Bool.and_true, and_true, true_and, numF] <;> try simp)) (by simp only [svL]; (simp only [setn, List.nil_append, List.cons_append, leF, leH_nil, leH_cons, leF_nil, lk, scp, scpL, scpO, resF, resH, resO, resV, resVL, nth, Nat.reduceBEq, Nat.reduceLT, decide_true, decide_false, List.length, List.length_cons, List.length_nil, Nat.reduceAdd, Bool.and_self, Bool.and_true, and_true, true_and, numF] <;> try simp)))⟩
        have hlt6 : q < y.stores.length := by have := of_decide_eq_true hlt6; omega
        have d0 : CellAt ⟨W3, W3.heap.size, [], 165, []⟩ hy.sA ((q : Int).toNat * 2) (.int .i64 y.stores[q].1) := by
         rw [Int.toNat_natCast]
         exact hys.cell (by rw [show q * 2 = q * 2 + 0 by omega, cellsPr_get _ hlt6 (by omega)]; rfl)
        have d1 : CellAt ⟨W3, W3.heap.size, [], 165, []⟩ hy.sA ((q : Int).toNat * 2 + 1) (.int .u64 y.stores[q].2) := by
         rw [Int.toNat_natCast]
         exact hys.cell (by rw [cellsPr_get _ hlt6 (by omega)]; rfl)
        have htq : y.stores.take (q + 1) = y.stores.take q ++ [y.stores[q]] := by rw [List.take_add_one, List.getElem?_eq_getElem hlt6]; rfl
        have sY : hy.sA.isSome = true := RowE.isSome hys (j := q * 2) (by rw [cellsPr_len]; omega)
        have hbq : 0 ≤ (q : Int) ∧ (q : Int) < (y.stores.length : Int) ∧ hy.sA.isSome = true := ⟨by omega, by omega, sY⟩
        generalize y.stores[q] = s at d0 d1 htq
        have hnx : lastV p.1 (firF first p.1) (stF (z.map (·.1)) o j ++ y.stores.take (q + 1)) = if s.1 = p.1 then s.2 else lastV p.1 (firF first p.1) (stF (z.map (·.1)) o j ++ y.stores.take q) := by
         rw [htq, ← List.append_assoc, lastV_app _ _ _ [s]]; rfl
        have hadd : ArOk .add .i64 (q : Int) 1 ((q + 1 : Nat) : Int) := ArOk.to (by omega) (by omega) (by omega)
        refine ⟨hbq, sY, _, d0, fun he => ⟨hbq, sY, _, d1, _, hadd, lend_rule fun a W rep => again6 (q + 1) hlt6 (by omega) a W ?_⟩, fun he => ⟨_, hadd, lend_rule fun a W rep => again6 (q + 1) hlt6 (by omega) a W ?_⟩⟩
        ·rw [if_pos (by simpa using he)] at hnx
         simp only [hnx]
         exact rep.le (by (simp only [setn, List.nil_append, List.cons_append, leF, leH_nil, leH_cons, leF_nil, lk, scp, scpL, scpO, resF, resH, resO, resV, resVL, nth, Nat.reduceBEq, Nat.reduceLT, decide_true, decide_false, List.length, List.length_cons, List.length_nil, Nat.reduceAdd, Bool.and_self, Bool.and_true, and_true, true_and, numF] <;> try simp)) (by simp only [svL]; (simp only [setn, List.nil_append, List.cons_append, leF, leH_nil, leH_cons, leF_nil, lk, scp, scpL, scpO, resF, resH, resO, resV, resVL, nth, Nat.reduceBEq, Nat.reduceLT, decide_true, decide_false, List.length, List.length_cons, List.length_nil, Nat.reduceAdd, Bool.and_self, Bool.and_true, and_true, true_and, numF] <;> try simp))
        ·rw [if_neg (by simpa using he)] at hnx
         simp only [hnx]
         exact rep.le (by (simp only [setn, List.nil_append, List.cons_append, leF, leH_nil, leH_cons, leF_nil, lk, scp, scpL, scpO, resF, resH, resO, resV, resVL, nth, Nat.reduceBEq, Nat.reduceLT, decide_true, decide_false, List.length, List.length_cons, List.length_nil, Nat.reduceAdd, Bool.and_self, Bool.and_true, and_true, true_and, numF] <;> try simp)) (by simp only [svL]; (simp only [setn, List.nil_append, List.cons_append, leF, leH_nil, leH_cons, leF_nil, lk, scp, scpL, scpO, resF, resH, resO, resV, resVL, nth, Nat.reduceBEq, Nat.reduceLT, decide_true, decide_false, List.length, List.length_cons, List.length_nil, Nat.reduceAdd, Bool.and_self, Bool.and_true, and_true, true_and, numF] <;> try simp))
     refine ⟨hbk, sL, _, c0, fun hw => ?_, fun hw => ?_⟩
     ·have hw := of_decide_eq_true hw
      have hlt7 : p.1.toNat < first.length := by omega
      have hv0 : firF first p.1 = first.getD p.1.toNat 0 := if_pos ⟨hp0, hw⟩
      refine ⟨⟨hp0, hw, RowE.isSome hFE (j := p.1.toNat) (by rw [List.length_map]; exact hlt7)⟩, first.getD p.1.toNat 0, by rw [Nat.mul_one]; exact hFE.cell (uV_get hlt7), ?_⟩
      rw [← hv0]
      exact fun a W rep => raw a W (rep.le (by (simp only [setn, List.nil_append, List.cons_append, leF, leH_nil, leH_cons, leF_nil, lk, scp, scpL, scpO, resF, resH, resO, resV, resVL, nth, Nat.reduceBEq, Nat.reduceLT, decide_true, decide_false, List.length, List.length_cons, List.length_nil, Nat.reduceAdd, Bool.and_self, Bool.and_true, and_true, true_and, numF] <;> try simp)) (by simp only [svL]; (simp only [setn, List.nil_append, List.cons_append, leF, leH_nil, leH_cons, leF_nil, lk, scp, scpL, scpO, resF, resH, resO, resV, resVL, nth, Nat.reduceBEq, Nat.reduceLT, decide_true, decide_false, List.length, List.length_cons, List.length_nil, Nat.reduceAdd, Bool.and_self, Bool.and_true, and_true, true_and, numF] <;> try simp)))
     ·have hw := of_decide_eq_false hw
      have hv0 : firF first p.1 = 0 := if_neg (fun h => hw h.2)
      rw [hv0] at raw
      exact fun a W rep => raw a W (rep.le (by (simp only [setn, List.nil_append, List.cons_append, leF, leH_nil, leH_cons, leF_nil, lk, scp, scpL, scpO, resF, resH, resO, resV, resVL, nth, Nat.reduceBEq, Nat.reduceLT, decide_true, decide_false, List.length, List.length_cons, List.length_nil, Nat.reduceAdd, Bool.and_self, Bool.and_true, and_true, true_and, numF] <;> try simp)) (by simp only [svL]; (simp only [setn, List.nil_append, List.cons_append, leF, leH_nil, leH_cons, leF_nil, lk, scp, scpL, scpO, resF, resH, resO, resV, resVL, nth, Nat.reduceBEq, Nat.reduceLT, decide_true, decide_false, List.length, List.length_cons, List.length_nil, Nat.reduceAdd, Bool.and_self, Bool.and_true, and_true, true_and, numF] <;> try simp)))
end Go.Proofs.Ytbkpiljencaoeaa
