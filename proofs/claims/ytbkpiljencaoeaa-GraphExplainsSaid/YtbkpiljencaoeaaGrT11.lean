/- graph.Explains. -/
import Derived.Test.YtbkpiljencaoeaaGrT10
import Derived.Test.YtbkpiljencaoeaaGrCodeT
set_option linter.unusedSimpArgs false
set_option linter.unusedVariables false
set_option linter.unnecessarySimpa false
namespace Go.Proofs.Ytbkpiljencaoeaa
open Go Go.Sx Go.Hs Go.Gr
set_option maxRecDepth 100000
def memV (m : List Pr) : List (Value × Value) := m.map fun p => (.int .i64 p.1, .int .u64 p.2)
theorem mget_mem : ∀ (m : List Pr) (a : Int), mget (memV m) (.int .i64 a) = (mGet m a).map fun v => .int .u64 v
 | [], _ => rfl
 | (q, v) :: m, a => by
  have ih := mget_mem m a
  simp only [memV, List.map_cons, mget, keyB_int, mGet] at ih ⊢
  by_cases e : a = q
  ·subst e; simp
  ·have : (a == q) = false := by simpa using e
   simp only [this, if_neg e]; exact ih
theorem mgetD_mem (m : List Pr) (a : Int) : (mget (memV m) (.int .i64 a)).getD (.int .u64 0) = .int .u64 (memF m a) := by
 rw [mget_mem]; unfold memF; cases mGet m a <;> rfl
theorem mput_mem : ∀ (m : List Pr) (a v : Int), mput (memV m) (.int .i64 a) (.int .u64 v) = memV (mPut m a v)
 | [], _, _ => rfl
 | (q, u) :: m, a, v => by
  have ih := mput_mem m a v
  simp only [memV, List.map_cons, mput, keyB_int, mPut] at ih ⊢
  by_cases e : a = q
  ·subst e; simp
  ·have : (a == q) = false := by simpa using e
   simp only [this, if_neg e]; rw [ih]; rfl
theorem memV_keys (m : List Pr) : ∀ p ∈ memV m, keyIs (.int .i64) p.1 = true := by
 intro p hp
 obtain ⟨a, _, rfl⟩ := List.mem_map.1 hp
 rfl
def uV (n : Int) : Value := .int .u64 n
theorem uV_get {l : List Int} {i : Nat} (h : i < l.length) : (l.map uV)[i]? = some (.int .u64 (l.getD i 0)) := by
 rw [List.getElem?_map, List.getD_eq_getElem?_getD, List.getElem?_eq_getElem h]; rfl
theorem explains20 (A F O : Option Addr) (c fc oc : Nat) (h : List Ev) (first : List Int) (o : List Int) (w : World) (hA : RowAt w A (cellsE h)) (hF : RowAt w F (first.map uV)) (hO : RowAt w O (isV o))
  (hl : h.length ≤ 1000) (hfl : first.length ≤ 1000000) (hol : o.length ≤ 1000) :
  CallsV Try.prog 20 [.slice A h.length c, .slice F first.length fc, .slice O o.length oc] w fun v w' => v = .tuple #[.bool (exA h first o).1, .int .i64 (exA h first o).2] ∧ Fresh w w' := by
 refine calls_go (keep := K20) (nt := 104) (svs := [.val (.slice A h.length c), .val (.slice F first.length fc), .val (.slice O o.length oc)]) Try.func20 x20 n20 (by simp) (by simp [IsL, Is]) fun R hR => ?_
 (refine Y_go 600 ?_; dsimp only [X20, numF, Nat.reduceAdd, zq9r, zq9q, Y_k, zq4u, zq8p, zq6p, YK, zq8t, zq6q, zq9i, normF, zq6n, Nat.reduceBEq, zq6l, zq6k, zq6m, zq86, zq87, zq8a, zq9y, t20n35, T20n35, zq8o, zq9j])
 refine call_base (vs := [.slice A h.length c]) rfl (R := fun W v w' => ComP h v w' ∧ Fresh W w') (fun W hW => committed31P A c h W (hA.keep hW.fresh') hl) (fun _ _ _ hr => hr.2) fun W v W' hW ⟨hr, _⟩ ov => ?_
 rcases hr with ⟨hs, hv⟩ | ⟨z, B, bc, hs, hzl, hv, hat⟩
 ·have hx : exA h first o = (false, 120) := by unfold exA; rw [hs]
  refine ⟨.tup [.val (.slice none 0 0), .val (.int .i64 120)], by rw [hv]; simp [Is, IsL], ?_⟩
  dsimp only [zq8t]
  (refine Y_go 600 ?_; dsimp only [Y_k, zq4u, zq8o, zq6n, Nat.reduceBEq, zq6k, YK, zq8t, zq5j, zq2f, nth, zq2e, zq6l, zq9i, normF, zq6m, zq86, zq87, zq8a, zq9y, t20n34, T20n34, zq9r, zq9q, zq50, zq8p, zq6q, zq04, zq92, zq9b, zq0i, zq9d, zq9s, zq6h, zq8x, YC, t20n0, T20n0, zq6p, zq89, zq9x, zq9p, t20n33, T20n33, zq9j])
  refine ⟨fun _ => ?_, fun hb => absurd hb (by decide)⟩
  exact ret_rule (vs := [.bool false, .int .i64 120]) r20 rfl rfl fun W hW => hR _ _ ⟨by rw [hx]; rfl, (ov.heap hW).fresh'⟩
 refine ⟨.tup [.val (.slice B z.length bc), .val (.int .i64 0)], by rw [hv]; simp [Is, IsL], ?_⟩
 obtain ⟨hrow, hats⟩ := hat
 have hxA : exA h first o = if h.any plainB = true then (false, 120) else if okO o z.length then (exM (z.map (·.1)) (begL first) o, 0) else (false, 2) := by
  unfold exA; rw [hs]
  simp only [List.length_map]
 dsimp only [zq8t]
 (refine Y_go 600 ?_; dsimp only [Y_k, zq4u, zq8o, zq6n, Nat.reduceBEq, zq6k, YK, zq8t, zq5j, zq2f, nth, zq2e, zq6l, zq9i, normF, zq6m, zq86, zq87, zq8a, zq9y, t20n34, T20n34, zq9r, zq9q, zq50, zq8p, zq6q, zq04, zq92, zq9b, zq0i, zq9d, zq9s, zq6h, zq8x, YC, t20n0, T20n0, zq6p, zq89, zq9x, zq9p, t20n33, T20n33, zq9j])
 refine ⟨fun hb => absurd hb (by decide), fun _ => ?_⟩
 have hAE := (rowE0 hA 104 []).over ov
 have hFE := (rowE0 hF 104 []).over ov
 have hOE := (rowE0 hO 104 []).over ov
 refine call_val (R := fun v => v = .bool (h.any plainB)) (vs := [.slice A h.length c, .func (.func 36) #[] #[]]) rfl (fun W hW => contains35 A c h W (hAE.at hW) (by omega)) fun v hv => ⟨.val (.bool (h.any plainB)), by rw [hv]; simp [Is], ?_⟩
 dsimp only [zq8t]
 (refine Y_go 600 ?_; dsimp only [zq9i, normF, zq6n, Nat.reduceBEq, zq6l, zq6k, zq6m, zq86, zq87, zq8a, zq9s, zq8o, zq6h, zq8x, YC, zq9y, t20n1, T20n1, zq9r, zq9q, Y_k, zq4u, zq8p, zq6p, YK, zq8t, zq6q, zq89, zq9x, zq9p, t20n32, T20n32, zq9j])
 refine ⟨fun hp => ?_, fun hp => ?_⟩
 ·exact ret_rule (vs := [.bool false, .int .i64 120]) r20 rfl rfl fun W hW => hR _ _ ⟨by rw [hxA, if_pos hp]; rfl, (ov.heap hW).fresh'⟩
 rw [if_neg (by rw [hp]; simp)] at hxA
 have hpl : ∀ p ∈ z, p.1.loads.length ≤ 1000000 ∧ p.1.stores.length ≤ 1000000 := fun p hp => by
  have := comO_lens hs p.1 (List.mem_map_of_mem hp)
  omega
 refine call_base (vs := [.slice O o.length oc]) rfl (R := fun W v w' => (∃ C : Option Addr, v = .func (.func 60) #[] #[.pointer C] ∧ RowAt w' C [.slice O o.length oc]) ∧ Fresh W w') (fun W hW => (values38 O o.length oc W).mono fun v w' ⟨C, h1, h2, h3⟩ => ⟨⟨C, h1, h2⟩, h3⟩) (fun _ _ _ hr => hr.2) fun W v W2 hW ⟨⟨C, hv, hC⟩, _⟩ ov2 => ?_
 refine ⟨.val (.func (.func 60) #[] #[.pointer C]), by rw [hv]; simp [Is], ?_⟩
 replace hAE := hAE.over ov2
 replace hFE := hFE.over ov2
 replace hOE := hOE.over ov2
 have hBE := (rowE0 hrow 104 []).over ov2
 replace hats : ∀ p ∈ z, RowE ⟨W2, W2.heap.size, [], 104, []⟩ p.2.lA (cellsPr p.1.loads) ∧ RowE ⟨W2, W2.heap.size, [], 104, []⟩ p.2.sA (cellsPr p.1.stores) := fun p hp => ⟨(rowE0 (hats p hp).1 104 []).over ov2, (rowE0 (hats p hp).2 104 []).over ov2⟩
 replace ov := ov.trans ov2
 have hCE := rowE0 hC 104 []
 clear ov2 hC
 dsimp only [zq8t]
 (refine Y_go 600 ?_; dsimp only [zq9j])
 refine call_base (vs := [.func (.func 60) #[] #[.pointer C]]) rfl (R := fun W v w' => (∃ S sc, v = .slice S o.length sc ∧ RowAt w' S (isV (srtI o))) ∧ Fresh W w') (fun W hW => (sorted37 C O o oc W (hCE.at hW) (hOE.at hW) hol).mono fun v w' ⟨h1, h2⟩ => ?_) (fun _ _ _ hr => hr.2) fun W v W3 hW ⟨⟨S, sc, hv, hS⟩, _⟩ ov2 => ?_
 ·rcases h1.2 with ⟨S, rfl, hn, hx⟩ | ⟨g, b, cap, cur, rfl, _⟩
  ·have e0 : srtI o = [] := List.eq_nil_of_length_eq_zero (by rw [srtI_len, hn])
   refine ⟨⟨S, 0, by rw [hn], ?_⟩, h2⟩
   rw [e0]
   intro j u hj
   simp [isV] at hj
  ·exact ⟨⟨_, _, rfl, RowAt.of_own h1 rfl⟩, h2⟩
 refine ⟨.val (.slice S o.length sc), by rw [hv]; simp [Is], ?_⟩
 replace hAE := hAE.over ov2
 replace hFE := hFE.over ov2
 replace hOE := hOE.over ov2
 replace hBE := hBE.over ov2
 replace hats : ∀ p ∈ z, RowE ⟨W3, W3.heap.size, [], 104, []⟩ p.2.lA (cellsPr p.1.loads) ∧ RowE ⟨W3, W3.heap.size, [], 104, []⟩ p.2.sA (cellsPr p.1.stores) := fun p hp => ⟨(hats p hp).1.over ov2, (hats p hp).2.over ov2⟩
 replace ov := ov.trans ov2
 have hSE := rowE0 hS 104 []
 clear ov2 hCE hrow hS hW hv
 dsimp only [zq8t]
 (refine Y_go 600 ?_; dsimp only [Y_k, zq4u, zq8o, zq6n, Nat.reduceBEq, zq6k, YK, zq8t, zq9i, normF, zq6l, zq6m, zq86, zq8a, zq87, zq9y, t20n31, T20n31, zq9r, zq9q, zq55, zq0r, zq8p, zq6q, zq9t, zq9v])
 have sS : 0 < o.length → S.isSome = true := fun h => RowE.isSome hSE (j := 0) (by rw [isV_len, srtI_len]; exact h)
 have bad : ¬ okO o z.length → ∀ s, denAll s.H s.F [6, 7] = some [.bool false, .int .i64 2] → RetG (cxOf Try.prog Try.f20 K20 T20 R) ⟨W3, W3.heap.size, [], 104, []⟩ s := fun hno s h1 => ret_rule (vs := [.bool false, .int .i64 2]) r20 rfl h1 fun W hW => hR _ _ ⟨by rw [hxA, if_neg hno]; rfl, (ov.heap hW).fresh'⟩
 refine loop_go (α := Nat) (fun i => i ≤ o.length ∧ ∀ j (hj : j < (srtI o).length), j < i → (srtI o)[j] = (j : Int)) (fun _ => ⟨W3, W3.heap.size, [], 104, []⟩)
  (fun i => { F := [(1, .val (.slice F first.length fc)), (2, .val (.slice O o.length oc)), (8, .val (.slice B z.length bc)), (35, .val (.slice S o.length sc)), (36, .val (.int .i64 o.length)), (37, .val (.int .i64 i))], H := [] }) (fun i => o.length - i) (fun _ => rfl) ?start ?round
 case start =>
  intro a W rep
  exact ⟨0, ⟨Nat.zero_le _, fun j _ h => absurd h (by omega)⟩, rep.le (by (simp only [setn, List.nil_append, List.cons_append, leF, leH_nil, leH_cons, leF_nil, lk, scp, scpL, scpO, resF, resH, resO, resV, resVL, nth, Nat.reduceBEq, Nat.reduceLT, decide_true, decide_false, List.length, List.length_cons, List.length_nil, Nat.reduceAdd, Bool.and_self, Bool.and_true, and_true, true_and, numF] <;> try simp)) (by (simp only [setn, List.nil_append, List.cons_append, leF, leH_nil, leH_cons, leF_nil, lk, scp, scpL, scpO, resF, resH, resO, resV, resVL, nth, Nat.reduceBEq, Nat.reduceLT, decide_true, decide_false, List.length, List.length_cons, List.length_nil, Nat.reduceAdd, Bool.and_self, Bool.and_true, and_true, true_and, numF] <;> try simp))⟩
 case round =>
  rintro i ⟨hi, hs1⟩ I again
  (refine Y_go 600 ?_; dsimp only [zq9y, t20n6, T20n6, zq9r, zq9q, Y_k, zq50, zq8o, zq6n, Nat.reduceBEq, zq6l, zq6k, zq04, zq92, zq9b, zq0i, zq9e, YK, zq8t, zq9i, normF, zq6m, zq86, zq87, t20n5, T20n5, zq9s, zq6h, zq8x, YC, zq9p, t20n4, T20n4, zq9t, zq4u, zq58, zq06, zq0w, zq5c, zq1p, zq1c, List.nil_append, zq1b, zq18, zq89, t20n3, T20n3, zq9d, t20n2, T20n2, zq8p, zq6p, zq6q, zq8a, zq9x, zqa1, zq4w, zq0e, zqa2, zq9u, popTo, zq6i, YP, t20n30, T20n30, zq55, zq0r, t20n7, T20n7, t20n29, T20n29, zq60, List.length_nil, zq8h, t20n28, T20n28, zq9v])
  refine ⟨fun hlt => ?_, fun hge => ?_⟩
  ·have hlt : i < o.length := by have := of_decide_eq_true hlt; omega
   have hil : i < (srtI o).length := by rw [srtI_len]; exact hlt
   refine ⟨⟨by omega, by omega, sS (by omega)⟩, (srtI o)[i], by rw [Int.toNat_natCast, Nat.mul_one]; exact hSE.cell (isV_get _ _ _ (List.getElem?_eq_getElem hil)), fun hne => ?_, fun heq => ?_⟩
   ·refine bad (fun hok => ?_) _ rfl
    have := (okO_srt hok.1).1 hok i hil
    simp [this] at hne
   ·refine ⟨((i + 1 : Nat) : Int), ArOk.to (by omega) (by omega) (by omega), lend_rule fun a W rep => again (i + 1) ⟨hlt, fun j hj hji => ?_⟩ (by omega) a W (rep.le (by (simp only [setn, List.nil_append, List.cons_append, leF, leH_nil, leH_cons, leF_nil, lk, scp, scpL, scpO, resF, resH, resO, resV, resVL, nth, Nat.reduceBEq, Nat.reduceLT, decide_true, decide_false, List.length, List.length_cons, List.length_nil, Nat.reduceAdd, Bool.and_self, Bool.and_true, and_true, true_and, numF] <;> try simp)) (by (simp only [setn, List.nil_append, List.cons_append, leF, leH_nil, leH_cons, leF_nil, lk, scp, scpL, scpO, resF, resH, resO, resV, resVL, nth, Nat.reduceBEq, Nat.reduceLT, decide_true, decide_false, List.length, List.length_cons, List.length_nil, Nat.reduceAdd, Bool.and_self, Bool.and_true, and_true, true_and, numF] <;> try simp)))⟩
    by_cases e : j = i
    ·subst e; simpa using heq
    ·exact hs1 j hj (by omega)
  ·have hie : i = o.length := by have := of_decide_eq_false hge; omega
   subst hie
   clear again
   refine ⟨fun hne => bad (fun hok => ?_) _ rfl, fun heq => ?_⟩
   ·have := hok.1
    simp [this] at hne
   have hol2 : o.length = z.length := by
    have : (o.length : Int) = z.length := by simpa using heq
    omega
   have hok : okO o z.length := (okO_srt hol2).2 fun j hj => hs1 j hj (by rw [srtI_len] at hj; exact hj)
   rw [if_pos hok] at hxA
   intro gm
   clear bad hs1 I
   refine loop_go (α := Nat) (fun i => i ≤ first.length) (fun _ => ⟨W3, W3.heap.size, [], 104, []⟩)
    (fun i => { F := [(2, .val (.slice O o.length oc)), (8, .val (.slice B z.length bc)), (13, .mp 0), (52, .val (.slice F first.length fc)), (53, .val (.int .i64 first.length)), (54, .val (.int .i64 i))], H := [.map gm (memV (begTo first i))] }) (fun i => first.length - i) (fun _ => rfl) ?start2 ?round2
   case start2 =>
    intro a W rep
    exact ⟨0, Nat.zero_le _, rep.le (by (simp only [setn, List.nil_append, List.cons_append, leF, leH_nil, leH_cons, leF_nil, lk, scp, scpL, scpO, resF, resH, resO, resV, resVL, nth, Nat.reduceBEq, Nat.reduceLT, decide_true, decide_false, List.length, List.length_cons, List.length_nil, Nat.reduceAdd, Bool.and_self, Bool.and_true, and_true, true_and, numF] <;> try simp)) (by (simp only [setn, List.nil_append, List.cons_append, leF, leH_nil, leH_cons, leF_nil, lk, scp, scpL, scpO, resF, resH, resO, resV, resVL, nth, Nat.reduceBEq, Nat.reduceLT, decide_true, decide_false, List.length, List.length_cons, List.length_nil, Nat.reduceAdd, Bool.and_self, Bool.and_true, and_true, true_and, numF] <;> try simp); rfl)⟩
   case round2 =>
    rintro i hi I again
    (refine Y_go 600 ?_; dsimp only [zq9y, t20n11, T20n11, zq9r, zq9q, Y_k, zq50, zq8o, zq6n, Nat.reduceBEq, zq6l, zq6k, zq04, zq92, zq9b, zq0i, zq9e, YK, zq8t, zq9i, normF, zq6m, zq86, zq87, zq8h, t20n10, T20n10, zq9s, zq6h, zq8x, YC, zq9p, t20n9, T20n9, zq9t, zq4u, zq58, zq06, zq0w, zq5c, zq1p, zq1c, List.nil_append, zq1b, zq18, zq89, t20n8, T20n8, zq64, den, zq4j, nth, zq00, zq4i, setn, zq8s, zqa1, zq4w, zq8p, zq6q, zq0e, zqa2, zq9u, popTo, zq6i, YP, t20n27, T20n27, zq55, zq0r, zq8a, zq9v])
    refine ⟨fun hlt => ?_, fun hge => ?_⟩
    ·have hlt : i < first.length := by have := of_decide_eq_true hlt; omega
     have sF : F.isSome = true := RowE.isSome hFE (j := i) (by rw [List.length_map]; exact hlt)
     refine ⟨⟨by omega, by omega, sF⟩, first.getD i 0, by rw [Int.toNat_natCast, Nat.mul_one]; exact hFE.cell (uV_get hlt), memV_keys _, ((i + 1 : Nat) : Int), ArOk.to (by omega) (by omega) (by omega), lend_rule fun a W rep => again (i + 1) hlt (by omega) a W (rep.le (by (simp only [setn, List.nil_append, List.cons_append, leF, leH_nil, leH_cons, leF_nil, lk, scp, scpL, scpO, resF, resH, resO, resV, resVL, nth, Nat.reduceBEq, Nat.reduceLT, decide_true, decide_false, List.length, List.length_cons, List.length_nil, Nat.reduceAdd, Bool.and_self, Bool.and_true, and_true, true_and, numF] <;> try simp)) (by (simp only [setn, List.nil_append, List.cons_append, leF, leH_nil, leH_cons, leF_nil, lk, scp, scpL, scpO, resF, resH, resO, resV, resVL, nth, Nat.reduceBEq, Nat.reduceLT, decide_true, decide_false, List.length, List.length_cons, List.length_nil, Nat.reduceAdd, Bool.and_self, Bool.and_true, and_true, true_and, numF] <;> try simp); exact mput_mem _ _ _))⟩
    ·have hie : i = first.length := by have := of_decide_eq_false hge; omega
     subst hie
     clear again I
     have sO : 0 < o.length → O.isSome = true := fun h => RowE.isSome hOE (j := 0) (by rw [isV_len]; exact h)
     have sB : 0 < z.length → B.isSome = true := fun h => RowE.isSome hBE (j := 0) (by rw [cellsTs_len]; omega)
     refine loop_go (α := Nat × List Pr) (fun q => q.1 ≤ o.length ∧ exM (z.map (·.1)) (begL first) o = exM (z.map (·.1)) q.2 (o.drop q.1)) (fun _ => ⟨W3, W3.heap.size, [], 104, []⟩)
      (fun q => { F := [(2, .val (.slice O o.length oc)), (8, .val (.slice B z.length bc)), (13, .mp 0), (63, .val (.slice O o.length oc)), (64, .val (.int .i64 o.length)), (65, .val (.int .i64 q.1))], H := [.map gm (memV q.2)] }) (fun q => o.length - q.1) (fun _ => rfl) ?start3 ?round3
     case start3 =>
      intro a W rep
      exact ⟨(0, begL first), ⟨Nat.zero_le _, rfl⟩, rep.le (by (simp only [setn, List.nil_append, List.cons_append, leF, leH_nil, leH_cons, leF_nil, lk, scp, scpL, scpO, resF, resH, resO, resV, resVL, nth, Nat.reduceBEq, Nat.reduceLT, decide_true, decide_false, List.length, List.length_cons, List.length_nil, Nat.reduceAdd, Bool.and_self, Bool.and_true, and_true, true_and, numF] <;> try simp)) (by (simp only [setn, List.nil_append, List.cons_append, leF, leH_nil, leH_cons, leF_nil, lk, scp, scpL, scpO, resF, resH, resO, resV, resVL, nth, Nat.reduceBEq, Nat.reduceLT, decide_true, decide_false, List.length, List.length_cons, List.length_nil, Nat.reduceAdd, Bool.and_self, Bool.and_true, and_true, true_and, numF] <;> try simp); rfl)⟩
     case round3 =>
      rintro ⟨i, m⟩ ⟨hi, hm⟩ I again
      simp only at hi hm ⊢
      (refine Y_go 600 ?_; dsimp only [zq9y, t20n25, T20n25, zq9r, zq9q, Y_k, zq50, zq8o, zq6n, Nat.reduceBEq, zq6l, zq6k, zq04, zq92, zq9b, zq0i, zq9e, YK, zq8t, zq9i, normF, zq6m, zq86, zq87, zq8h, t20n24, T20n24, zq9s, zq6h, zq8x, YC, zq9p, t20n23, T20n23, zq9t, zq58, zq06, zq0w, zq5c, zq1p, zq1c, List.nil_append, zq1b, zq18, zq4u, zq89, t20n22, T20n22, zq5a, zq16, zq1g, zq55, zq0r, zq8p, zq6q, zq9v, zq9u, popTo, zq6i, YP, t20n26, T20n26, zq6o, zq8a, zq9x])
      refine ⟨fun hlt => ?_, fun hge => ?_⟩
      rotate_left
      ·have hie : i = o.length := by have := of_decide_eq_false hge; omega
       subst hie
       refine ret_rule (vs := [.bool true, .int .i64 0]) r20 rfl rfl fun W hW => hR _ _ ⟨?_, (ov.heap hW).fresh'⟩
       rw [hxA, hm, List.drop_length]; rfl
      have hlt : i < o.length := by have := of_decide_eq_true hlt; omega
      have hdrop : o.drop i = o[i] :: o.drop (i + 1) := List.drop_eq_getElem_cons hlt
      have cO : CellAt ⟨W3, W3.heap.size, [], 104, []⟩ O ((i : Int).toNat * 1) (.int .i64 o[i]) := by rw [Int.toNat_natCast, Nat.mul_one]; exact hOE.cell (isV_get _ _ _ (List.getElem?_eq_getElem hlt))
      have hrng := hok.2.2 _ (List.getElem_mem hlt)
      rw [hdrop] at hm
      generalize o[i] = n at cO hrng hm
      obtain ⟨n, rfl⟩ : ∃ k : Nat, (k : Int) = n := ⟨n.toNat, by omega⟩
      have hnz : n < z.length := by omega
      have cl : ∀ k v, (cellsT z[n].1 z[n].2)[k]? = some v → CellAt ⟨W3, W3.heap.size, [], 104, []⟩ B ((n : Int).toNat * 11 + k) v := by
       intro k v hk
       have := (List.getElem?_eq_some_iff.1 hk).1
       rw [Int.toNat_natCast]
       exact hBE.cell (by rw [cellsTs_get z hnz this]; exact hk)
      have hgx : (z.map (·.1)).getD (n : Int).toNat default = z[n].1 := by
       rw [Int.toNat_natCast, List.getD_eq_getElem?_getD, List.getElem?_map, List.getElem?_eq_getElem hnz]; rfl
      obtain ⟨hxl, hxs⟩ := hats _ (List.getElem_mem hnz)
      have hlen := hpl _ (List.getElem_mem hnz)
      generalize z[n] = px at cl hgx hxl hxs hlen
      obtain ⟨x, hx⟩ := px
      simp only at cl hgx hxl hxs hlen
      have hm1 : exM (z.map (·.1)) m ((n : Int) :: o.drop (i + 1)) = ((x.loads.all fun p => memF m p.1 == p.2) && exM (z.map (·.1)) (putAll m x.stores) (o.drop (i + 1))) := by
       simp only [exM]; rw [hgx]
      rw [hm1] at hm
      refine ⟨⟨by omega, by omega, sO (by omega)⟩, _, cO, ⟨by omega, by omega, sB (by omega)⟩, sB (by omega), _, _, _, cl 7 _ rfl, ?_⟩
      refine loop_go (α := Nat) (fun k => k ≤ x.loads.length ∧ ∀ p ∈ x.loads.take k, (memF m p.1 == p.2) = true) (fun _ => ⟨W3, W3.heap.size, [], 104, []⟩)
       (fun k => { F := [(2, .val (.slice O o.length oc)), (8, .val (.slice B z.length bc)), (13, .mp 0), (17, .val (.int .i64 n)), (63, .val (.slice O o.length oc)), (64, .val (.int .i64 o.length)), (65, .val (.int .i64 i)), (73, .val (.slice hx.lA x.loads.length hx.lc)), (74, .val (.int .i64 x.loads.length)), (75, .val (.int .i64 k))], H := [.map gm (memV m)] }) (fun k => x.loads.length - k) (fun _ => rfl) ?start4 ?round4
      case start4 =>
       intro a W rep
       exact ⟨0, ⟨Nat.zero_le _, by simp⟩, rep.le (by (simp only [setn, List.nil_append, List.cons_append, leF, leH_nil, leH_cons, leF_nil, lk, scp, scpL, scpO, resF, resH, resO, resV, resVL, nth, Nat.reduceBEq, Nat.reduceLT, decide_true, decide_false, List.length, List.length_cons, List.length_nil, Nat.reduceAdd, Bool.and_self, Bool.and_true, and_true, true_and, numF] <;> try simp)) (by (simp only [setn, List.nil_append, List.cons_append, leF, leH_nil, leH_cons, leF_nil, lk, scp, scpL, scpO, resF, resH, resO, resV, resVL, nth, Nat.reduceBEq, Nat.reduceLT, decide_true, decide_false, List.length, List.length_cons, List.length_nil, Nat.reduceAdd, Bool.and_self, Bool.and_true, and_true, true_and, numF] <;> try simp))⟩
      case round4 =>
       rintro k ⟨hk, hkm⟩ I4 again4
       (refine Y_go 600 ?_; dsimp only [zq9y, t20n16, T20n16, zq9r, zq9q, Y_k, zq50, zq8o, zq6n, Nat.reduceBEq, zq6l, zq6k, zq04, zq92, zq9b, zq0i, zq9e, YK, zq8t, zq9i, normF, zq6m, zq86, zq87, zq8h, t20n15, T20n15, zq9s, zq6h, zq8x, YC, zq9p, t20n14, T20n14, zq9t, zq58, zq06, zq0w, zq5c, zq1p, zq1c, List.nil_append, List.cons_append, zq1b, zq17, zq5e, List.length_cons, List.length_nil, Nat.reduceAdd, List.map, zq6q, zq5d, zq7t, zq8l, zq73, zq8m, zq8k, zq0a, zq1x, nth, zq1t, dropL, takeL, zq1r, splice, setn, zq8s, zq89, zq8c, t20n13, T20n13, zq4u, zq5a, zq14, Nat.add_zero, zq1o, zq1k, zq19, zq18, zq61, zq4h, zq00, zq4g, zq4f, zq9u, popTo, zq6i, YP, t20n21, T20n21, zq16, zq1g, zq55, zq0r, zq8p, zq8a, zq9v])
       refine ⟨fun hlt4 => ?_, fun hge => ?_⟩
       ·have hlt4 : k < x.loads.length := by have := of_decide_eq_true hlt4; omega
        have c0 : CellAt ⟨W3, W3.heap.size, [], 104, []⟩ hx.lA ((k : Int).toNat * 2) (.int .i64 x.loads[k].1) := by
         rw [Int.toNat_natCast]
         exact hxl.cell (by rw [show k * 2 = k * 2 + 0 by omega, cellsPr_get _ hlt4 (by omega)]; rfl)
        have c1 : CellAt ⟨W3, W3.heap.size, [], 104, []⟩ hx.lA ((k : Int).toNat * 2 + 1) (.int .u64 x.loads[k].2) := by
         rw [Int.toNat_natCast]
         exact hxl.cell (by rw [cellsPr_get _ hlt4 (by omega)]; rfl)
        have htk : x.loads.take (k + 1) = x.loads.take k ++ [x.loads[k]] := by rw [List.take_add_one, List.getElem?_eq_getElem hlt4]; rfl
        have hmem := List.getElem_mem hlt4
        have sL : hx.lA.isSome = true := RowE.isSome hxl (j := k * 2) (by rw [cellsPr_len]; omega)
        generalize x.loads[k] = p at c0 c1 htk hmem
        refine ⟨⟨by omega, by omega, sL⟩, _, c0, _, c1, fun g3 => ⟨memV_keys _, _, rfl, .val (.int .u64 (memF m p.1)), by rw [mgetD_mem]; rfl, ?_⟩⟩
        dsimp only [zq04, zq96, zq9b, zq0i, zq9d, YK, zq8t, zq9i, normF, zq6n, Nat.reduceBEq, zq6l, zq6m, zq6k, zq86, zq87, zq89, zq8c, zq8h, zq9s, zq8o, zq6h, zq8x, YC, zq9y, t20n12, T20n12, zq9r, zq9q, Y_k, zq4u, zq8p, zq6p, zq6q, zq8a, zq9x, zq9p, zqa1, zq4w, zq92, zq0e, zqa2]
        refine ⟨fun hb => ?_, fun hb => ⟨((k + 1 : Nat) : Int), ArOk.to (by omega) (by omega) (by omega), lend_rule fun a W rep => again4 (k + 1) ⟨hlt4, fun q hq => ?_⟩ (by omega) a W (rep.le (by (simp only [setn, List.nil_append, List.cons_append, leF, leH_nil, leH_cons, leF_nil, lk, scp, scpL, scpO, resF, resH, resO, resV, resVL, nth, Nat.reduceBEq, Nat.reduceLT, decide_true, decide_false, List.length, List.length_cons, List.length_nil, Nat.reduceAdd, Bool.and_self, Bool.and_true, and_true, true_and, numF] <;> try simp)) (by (simp only [setn, List.nil_append, List.cons_append, leF, leH_nil, leH_cons, leF_nil, lk, scp, scpL, scpO, resF, resH, resO, resV, resVL, nth, Nat.reduceBEq, Nat.reduceLT, decide_true, decide_false, List.length, List.length_cons, List.length_nil, Nat.reduceAdd, Bool.and_self, Bool.and_true, and_true, true_and, numF] <;> try simp)))⟩⟩
        ·refine ret_rule (vs := [.bool false, .int .i64 0]) r20 rfl rfl fun W hW => hR _ _ ⟨?_, (ov.heap hW).fresh'⟩
         have hall : (x.loads.all fun p => memF m p.1 == p.2) = false := by
          rw [List.all_eq_false]
          exact ⟨p, hmem, by simpa using hb⟩
         rw [hxA, hm, hall]; rfl
        ·rw [htk] at hq
         rcases List.mem_append.1 hq with h9 | h9
         ·exact hkm q h9
         ·simp only [List.mem_singleton] at h9; subst h9
          simpa using hb
       ·have hke : k = x.loads.length := by have := of_decide_eq_false hge; omega
        subst hke
        rw [List.take_of_length_le (Nat.le_refl _)] at hkm
        have hall : (x.loads.all fun p => memF m p.1 == p.2) = true := List.all_eq_true.2 hkm
        rw [hall, Bool.true_and] at hm
        refine ⟨⟨by omega, by omega, sB (by omega)⟩, sB (by omega), _, _, _, cl 8 _ rfl, ?_⟩
        clear again4 I4
        refine loop_go (α := Nat) (fun k => k ≤ x.stores.length) (fun _ => ⟨W3, W3.heap.size, [], 104, []⟩)
         (fun k => { F := [(2, .val (.slice O o.length oc)), (8, .val (.slice B z.length bc)), (13, .mp 0), (63, .val (.slice O o.length oc)), (64, .val (.int .i64 o.length)), (65, .val (.int .i64 i)), (91, .val (.slice hx.sA x.stores.length hx.sc)), (92, .val (.int .i64 x.stores.length)), (93, .val (.int .i64 k))], H := [.map gm (memV (putAll m (x.stores.take k)))] }) (fun k => x.stores.length - k) (fun _ => rfl) ?start5 ?round5
        case start5 =>
         intro a W rep
         exact ⟨0, Nat.zero_le _, rep.le (by (simp only [setn, List.nil_append, List.cons_append, leF, leH_nil, leH_cons, leF_nil, lk, scp, scpL, scpO, resF, resH, resO, resV, resVL, nth, Nat.reduceBEq, Nat.reduceLT, decide_true, decide_false, List.length, List.length_cons, List.length_nil, Nat.reduceAdd, Bool.and_self, Bool.and_true, and_true, true_and, numF] <;> try simp)) (by (simp only [setn, List.nil_append, List.cons_append, leF, leH_nil, leH_cons, leF_nil, lk, scp, scpL, scpO, resF, resH, resO, resV, resVL, nth, Nat.reduceBEq, Nat.reduceLT, decide_true, decide_false, List.length, List.length_cons, List.length_nil, Nat.reduceAdd, Bool.and_self, Bool.and_true, and_true, true_and, numF] <;> try simp); rfl)⟩
        case round5 =>
         rintro k hk I5 again5
         (refine Y_go 600 ?_; dsimp only [zq9y, t20n20, T20n20, zq9r, zq9q, Y_k, zq50, zq8o, zq6n, Nat.reduceBEq, zq6l, zq6k, zq04, zq92, zq9b, zq0i, zq9e, YK, zq8t, zq9i, normF, zq6m, zq87, zq86, zq8h, t20n19, T20n19, zq9s, zq6h, zq8x, YC, zq9p, t20n18, T20n18, zq9t, zq58, zq06, zq0w, zq5c, zq1p, zq1c, List.nil_append, List.cons_append, zq1b, zq17, zq5e, List.length_cons, List.length_nil, Nat.reduceAdd, List.map, zq6q, zq5d, zq7t, zq8l, zq73, zq8m, zq8k, zq0a, zq1x, nth, zq1t, dropL, takeL, zq1r, splice, setn, zq8s, zq89, zq8c, t20n17, T20n17, zq4u, zq5a, zq14, Nat.add_zero, zq1o, zq1k, zq19, zq18, zq64, den, zq4j, zq00, zq4i, zqa1, zq4w, zq8p, zq0e, zqa2, zq9u, popTo, zq6i, YP, zq8a])
         refine ⟨fun hlt5 => ?_, fun hge => ?_⟩
         ·have hlt5 : k < x.stores.length := by have := of_decide_eq_true hlt5; omega
          have c0 : CellAt ⟨W3, W3.heap.size, [], 104, []⟩ hx.sA ((k : Int).toNat * 2) (.int .i64 x.stores[k].1) := by
           rw [Int.toNat_natCast]
           exact hxs.cell (by rw [show k * 2 = k * 2 + 0 by omega, cellsPr_get _ hlt5 (by omega)]; rfl)
          have c1 : CellAt ⟨W3, W3.heap.size, [], 104, []⟩ hx.sA ((k : Int).toNat * 2 + 1) (.int .u64 x.stores[k].2) := by
           rw [Int.toNat_natCast]
           exact hxs.cell (by rw [cellsPr_get _ hlt5 (by omega)]; rfl)
          have htk : x.stores.take (k + 1) = x.stores.take k ++ [x.stores[k]] := by rw [List.take_add_one, List.getElem?_eq_getElem hlt5]; rfl
          have sL : hx.sA.isSome = true := RowE.isSome hxs (j := k * 2) (by rw [cellsPr_len]; omega)
          generalize x.stores[k] = p at c0 c1 htk
          refine ⟨⟨by omega, by omega, sL⟩, _, c0, _, c1, fun g3 => ⟨memV_keys _, ((k + 1 : Nat) : Int), ArOk.to (by omega) (by omega) (by omega), lend_rule fun a W rep => again5 (k + 1) hlt5 (by omega) a W ?_⟩⟩
          have e : memV (putAll m (x.stores.take (k + 1))) = mput (memV (putAll m (x.stores.take k))) (.int .i64 p.1) (.int .u64 p.2) := by rw [htk, putAll_snoc, mput_mem]
          simp only [e]
          exact rep.le (by (simp only [setn, List.nil_append, List.cons_append, leF, leH_nil, leH_cons, leF_nil, lk, scp, scpL, scpO, resF, resH, resO, resV, resVL, nth, Nat.reduceBEq, Nat.reduceLT, decide_true, decide_false, List.length, List.length_cons, List.length_nil, Nat.reduceAdd, Bool.and_self, Bool.and_true, and_true, true_and, numF] <;> try simp)) (by (simp only [setn, List.nil_append, List.cons_append, leF, leH_nil, leH_cons, leF_nil, lk, scp, scpL, scpO, resF, resH, resO, resV, resVL, nth, Nat.reduceBEq, Nat.reduceLT, decide_true, decide_false, List.length, List.length_cons, List.length_nil, Nat.reduceAdd, Bool.and_self, Bool.and_true, and_true, true_and, numF] <;> try simp))
         ·have hke : k = x.stores.length := by have := of_decide_eq_false hge; omega
          subst hke
          rw [List.take_of_length_le (Nat.le_refl _)]
          exact ⟨((i + 1 : Nat) : Int), ArOk.to (by omega) (by omega) (by omega), lend_rule fun a W rep => again (i + 1, putAll m x.stores) ⟨hlt, hm⟩ (by show o.length - (i + 1) < o.length - i; omega) a W (rep.le (by (simp only [setn, List.nil_append, List.cons_append, leF, leH_nil, leH_cons, leF_nil, lk, scp, scpL, scpO, resF, resH, resO, resV, resVL, nth, Nat.reduceBEq, Nat.reduceLT, decide_true, decide_false, List.length, List.length_cons, List.length_nil, Nat.reduceAdd, Bool.and_self, Bool.and_true, and_true, true_and, numF] <;> try simp)) (by (simp only [setn, List.nil_append, List.cons_append, leF, leH_nil, leH_cons, leF_nil, lk, scp, scpL, scpO, resF, resH, resO, resV, resVL, nth, Nat.reduceBEq, Nat.reduceLT, decide_true, decide_false, List.length, List.length_cons, List.length_nil, Nat.reduceAdd, Bool.and_self, Bool.and_true, and_true, true_and, numF] <;> try simp)))⟩
end Go.Proofs.Ytbkpiljencaoeaa
