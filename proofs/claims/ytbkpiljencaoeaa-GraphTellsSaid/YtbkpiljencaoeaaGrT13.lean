/- GraphTells: the law's function. -/
import Derived.Test.YtbkpiljencaoeaaGrT12
import Derived.Test.YtbkpiljencaoeaaGrT9
import Derived.Test.YtbkpiljencaoeaaGrCodeT
set_option linter.unusedSimpArgs false
set_option linter.unusedVariables false
set_option linter.unnecessarySimpa false
namespace Go.Proofs.Ytbkpiljencaoeaa
open Go Go.Sx Go.Hs Go.Gr
set_option maxRecDepth 100000
theorem edE_cellT {E : Env} {A : Option Addr} {l : List Ed} (h : RowE E A (cellsD l)) {k : Nat} {e : Ed} (hk : l[k]? = some e) : CellAt E A ((k : Int).toNat * 2) (.int .i64 e.1) ∧ CellAt E A ((k : Int).toNat * 2 + 1) (.int .i64 e.2) := by
 obtain ⟨hlt, rfl⟩ := List.getElem?_eq_some_iff.1 hk
 rw [Int.toNat_natCast]
 exact ⟨h.cell (by rw [show k * 2 = k * 2 + 0 by omega, cellsD_get l hlt (by omega)]; rfl), h.cell (by rw [cellsD_get l hlt (by omega)]; rfl)⟩
theorem law6 (A F O : Option Addr) (c fc oc : Nat) (h : List Ev) (first : List Int) (o : List Int) (w : World) (hA : RowAt w A (cellsE h)) (hF : RowAt w F (first.map uV)) (hO : RowAt w O (isV o)) :
  CallsV Try.prog 6 [.slice A h.length c, .slice F first.length fc, .slice O o.length oc] w fun v w' => v = .bool true ∧ Fresh w w' := by
 refine calls_go (keep := K6) (nt := 97) (svs := [.val (.slice A h.length c), .val (.slice F first.length fc), .val (.slice O o.length oc)]) Try.func6 x6 n6 (by simp) (by simp [IsL, Is]) fun R hR => ?_
 (refine Y_go 600 ?_; dsimp only [X6, numF, Nat.reduceAdd, zq9r, zq9q, Y_k, zq4u, zq8p, zq6p, YK, zq8t, zq9i, normF, zq6n, Nat.reduceBEq, zq6l, zq6k, zq6m, zq86, zq8a, zq87, zq9y, t6n13, T6n13, zq8o, zq55, zq0r, zq50, zq6q, zq04, zq92, zq9b, zq0i, zq9g, Y_gk, zq6e, YS, zq6a, zq4v, zq6o, zq0b, zq89, zq9s, zq6f, YC, t6n0, T6n0, zq9x, YR, zq6c, zq0c, zq6h, zq8x, zq9p, t6n12, T6n12, zq9j])
 have yes : ∀ (E : Env) s, E.marks = [] → Over ⟨w, w.heap.size, [], 97, []⟩ E → denAll s.H s.F [6] = some [.bool true] → RetG (cxOf Try.prog Try.f6 K6 T6 R) E s := fun E s hm ho h1 => ret_rule (vs := [.bool true]) r6 hm h1 fun W hW => hR _ _ ⟨rfl, (ho.heap hW).fresh'⟩
 refine ⟨fun _ => yes _ _ rfl (Over.refl _) rfl, fun h1 => ⟨fun _ => yes _ _ rfl (Over.refl _) rfl, fun h2 => ⟨fun _ => yes _ _ rfl (Over.refl _) rfl, fun h3 => ?_⟩⟩⟩
 have hl : h.length ≤ 300 := by have := of_decide_eq_false h1; omega
 have hfl : first.length ≤ 1000 := by have := of_decide_eq_false h2; omega
 have hol : o.length ≤ 1000 := by have := of_decide_eq_false h3; omega
 have hAE := rowE0 hA 97 []
 have hFE := rowE0 hF 97 []
 have hOE := rowE0 hO 97 []
 obtain ⟨N, L, e, hLl, hof⟩ : ∃ (N : Int) (L : List Ed) (e : Int), L.length ≤ 500 * 500 ∧ ∀ v w', OfR h v w' → ∃ B bc, v = .tuple #[.int .i64 N, .slice B L.length bc, .int .i64 e] ∧ RowAt w' B (cellsD L) := by
  cases hc : comO h with
  | none =>
   refine ⟨0, [], 120, by simp, fun v w' hr => ?_⟩
   rcases hr with ⟨_, hv⟩ | ⟨l, B, bc, h4, _⟩
   ·exact ⟨none, 0, hv, fun j u hj => by cases hj⟩
   ·rw [hc] at h4; cases h4
  | some l =>
   obtain ⟨_, _, _, hl5⟩ := comO_some hc
   refine ⟨l.length, edL l, 0, Nat.le_trans (edAll_len l l.length) (Nat.mul_le_mul (by omega) (by omega)), fun v w' hr => ?_⟩
   rcases hr with ⟨h4, _⟩ | ⟨l2, B, bc, h4, hv, hB⟩
   ·rw [hc] at h4; cases h4
   ·rw [hc] at h4; injection h4 with h4; subst h4
    exact ⟨B, bc, hv, hB⟩
 refine call_base (vs := [.slice A h.length c]) rfl (R := fun W v w' => (∃ B bc, v = .tuple #[.int .i64 N, .slice B L.length bc, .int .i64 e] ∧ RowAt w' B (cellsD L)) ∧ Fresh W w') (fun W hW => (of18 A c h W (hAE.at hW) (by omega)).mono fun v w' ⟨h4, h5⟩ => ⟨hof v w' h4, h5⟩) (fun _ _ _ hr => hr.2) fun W v W1 hW ⟨⟨B, bc, hv, hB⟩, _⟩ ov => ?_
 refine ⟨.tup [.val (.int .i64 N), .val (.slice B L.length bc), .val (.int .i64 e)], by rw [hv]; simp [Is, IsL], ?_⟩
 have hBE := rowE0 hB 97 []
 replace hAE := hAE.over ov
 replace hFE := hFE.over ov
 replace hOE := hOE.over ov
 clear hB hW hv
 dsimp only [zq8t]
 (refine Y_go 600 ?_; dsimp only [Y_k, zq4u, zq8o, zq6n, Nat.reduceBEq, zq6k, YK, zq8t, zq5j, zq2f, nth, zq2e, zq6l, zq9i, normF, zq6m, zq86, zq8a, zq87, zq9y, t6n11, T6n11, zq9r, zq9q, zq9j])
 refine call_base (vs := [.slice A h.length c]) rfl (R := fun W v w' => (∃ B bc, v = .tuple #[.int .i64 N, .slice B L.length bc, .int .i64 e] ∧ RowAt w' B (cellsD L)) ∧ Fresh W w') (fun W hW => (refof19 A c h W (hAE.at hW) (by omega)).mono fun v w' ⟨h4, h5⟩ => ⟨hof v w' h4, h5⟩) (fun _ _ _ hr => hr.2) fun W v W2 hW ⟨⟨D, dc, hv, hD⟩, _⟩ ov2 => ?_
 refine ⟨.tup [.val (.int .i64 N), .val (.slice D L.length dc), .val (.int .i64 e)], by rw [hv]; simp [Is, IsL], ?_⟩
 have hDE := rowE0 hD 97 []
 replace hBE := hBE.over ov2
 replace hAE := hAE.over ov2
 replace hFE := hFE.over ov2
 replace hOE := hOE.over ov2
 replace ov := ov.trans ov2
 clear hD hW hv ov2 hof
 dsimp only [zq8t]
 (refine Y_go 600 ?_; dsimp only [Y_k, zq4u, zq8o, zq6n, Nat.reduceBEq, zq6k, YK, zq8t, zq5j, zq2f, nth, zq2e, zq6l, zq9i, normF, zq6m, zq86, zq8a, zq87, zq9y, t6n10, T6n10, zq9r, zq9q, zq9j])
 refine call_base (vs := [.slice A h.length c, .slice F first.length fc, .slice O o.length oc]) rfl (R := fun W v w' => v = .tuple #[.bool (exA h first o).1, .int .i64 (exA h first o).2] ∧ Fresh W w') (fun W hW => explains20 A F O c fc oc h first o W (hAE.at hW) (hFE.at hW) (hOE.at hW) (by omega) (by omega) hol) (fun _ _ _ hr => hr.2) fun W v W3 hW ⟨hv, _⟩ ov2 => ?_
 refine ⟨.tup [.val (.bool (exA h first o).1), .val (.int .i64 (exA h first o).2)], by rw [hv]; simp [Is, IsL], ?_⟩
 replace hDE := hDE.over ov2
 replace hBE := hBE.over ov2
 replace hAE := hAE.over ov2
 replace hFE := hFE.over ov2
 replace hOE := hOE.over ov2
 replace ov := ov.trans ov2
 clear hW hv ov2
 dsimp only [zq8t]
 (refine Y_go 600 ?_; dsimp only [Y_k, zq4u, zq8o, zq6n, Nat.reduceBEq, zq6k, YK, zq8t, zq5j, zq2f, nth, zq2e, zq6l, zq9i, normF, zq6m, zq86, zq8a, zq87, zq9y, t6n9, T6n9, zq9r, zq9q, zq9j])
 refine call_base (vs := [.slice A h.length c, .slice F first.length fc, .slice O o.length oc]) rfl (R := fun W v w' => v = .tuple #[.bool (exA h first o).1, .int .i64 (exA h first o).2] ∧ Fresh W w') (fun W hW => refexplains21 A F O c fc oc h first o W (hAE.at hW) (hFE.at hW) (hOE.at hW) (by omega) (by omega) hol) (fun _ _ _ hr => hr.2) fun W v W4 hW ⟨hv, _⟩ ov2 => ?_
 refine ⟨.tup [.val (.bool (exA h first o).1), .val (.int .i64 (exA h first o).2)], by rw [hv]; simp [Is, IsL], ?_⟩
 replace hDE := hDE.over ov2
 replace hBE := hBE.over ov2
 replace ov := ov.trans ov2
 clear hW hv ov2
 dsimp only [zq8t]
 (refine Y_go 600 ?_; dsimp only [Y_k, zq4u, zq8o, zq6n, Nat.reduceBEq, zq6k, YK, zq8t, zq5j, zq2f, nth, zq2e, zq6l, zq9i, normF, zq6m, zq86, zq8a, zq87, zq9y, t6n8, T6n8, zq9r, zq9q, zq50, zq04, zq92, zq9b, zq0i, zq9d, Y_gk, zq6e, YS, zq6a, zq4v, zq8p, zq6o, zq0b, zq89, zq9s, zq6f, YC, t6n1, T6n1, zq6p, zq9x, YR, zq6c, zq0c, zq55, zq0r, zq51, zq8w, zq0j, zq6h, zq8x, zq9p, t6n7, T6n7, zq6q, zq9t, zq9v])
 have bb : ∀ b : Bool, (!b == b) = true → False := fun b h => by cases b <;> cases h
 refine ⟨fun h => absurd h (by simp), fun _ => ⟨fun h => absurd h (by simp), fun _ => ⟨fun h => absurd h (by simp), fun _ => ⟨fun h => (bb _ h).elim, fun _ => ⟨fun h => absurd h (by simp), fun _ => ?_⟩⟩⟩⟩⟩
 have sB : 0 < L.length → B.isSome = true := fun h => RowE.isSome hBE (j := 0) (by rw [cellsD_len]; omega)
 have sD : 0 < L.length → D.isSome = true := fun h => RowE.isSome hDE (j := 0) (by rw [cellsD_len]; omega)
 refine loop_go (α := Nat) (fun i => i ≤ L.length) (fun _ => ⟨W4, W4.heap.size, [], 97, []⟩)
  (fun i => { F := [(8, .val (.slice B L.length bc)), (11, .val (.slice D L.length dc)), (17, .val (.int .i64 i))], H := [] }) (fun i => L.length - i) (fun _ => rfl) ?start ?round
 case start =>
  intro a W rep
  exact ⟨0, Nat.zero_le _, rep.le (by (simp only [setn, List.nil_append, List.cons_append, leF, leH_nil, leH_cons, leF_nil, lk, scp, scpL, scpO, resF, resH, resO, resV, resVL, nth, Nat.reduceBEq, Nat.reduceLT, decide_true, decide_false, List.length, List.length_cons, List.length_nil, Nat.reduceAdd, Bool.and_self, Bool.and_true, and_true, true_and, numF] <;> try simp)) (by (simp only [setn, List.nil_append, List.cons_append, leF, leH_nil, leH_cons, leF_nil, lk, scp, scpL, scpO, resF, resH, resO, resV, resVL, nth, Nat.reduceBEq, Nat.reduceLT, decide_true, decide_false, List.length, List.length_cons, List.length_nil, Nat.reduceAdd, Bool.and_self, Bool.and_true, and_true, true_and, numF] <;> try simp))⟩
 case round =>
  rintro i hi I again
  (refine Y_go 600 ?_; dsimp only [zq9y, t6n5, T6n5, zq9r, zq9q, Y_k, zq4u, zq8o, zq6n, Nat.reduceBEq, zq6l, zq6k, YK, zq8t, zq55, zq0r, zq50, zq04, zq92, zq9b, zq0i, zq9e, zq9i, normF, zq6m, zq86, zq87, zq9s, zq6h, zq8x, YC, zq9p, t6n4, T6n4, zq9t, zq58, zq06, zq0w, zq5c, zq1p, zq1c, List.nil_append, List.cons_append, zq1b, zq17, zq5s, zq3o, eqSV, zq3p, zq89, t6n2, T6n2, zq8p, zq6p, zq8a, zq9x, zqa1, t6n3, T6n3, zq4w, zq6q, zq0e, zqa2, zq9u, popTo, zq6i, YP, t6n6, T6n6, zq6o])
  refine ⟨fun hlt => ?_, fun hge => ?_⟩
  ·have hlt : i < L.length := by have := of_decide_eq_true hlt; omega
   have hg := List.getElem?_eq_getElem hlt
   obtain ⟨b0, b1⟩ := edE_cellT hBE hg
   obtain ⟨d0, d1⟩ := edE_cellT hDE hg
   generalize L[i] = x at b0 b1 d0 d1
   refine ⟨⟨by omega, by omega, sB (by omega)⟩, _, b0, _, b1, ⟨by omega, by omega, sD (by omega)⟩, _, d0, _, d1, fun h => absurd h (by simp), fun _ => ⟨((i + 1 : Nat) : Int), ArOk.to (by omega) (by omega) (by omega), lend_rule fun a W rep => again (i + 1) hlt (by omega) a W (rep.le (by (simp only [setn, List.nil_append, List.cons_append, leF, leH_nil, leH_cons, leF_nil, lk, scp, scpL, scpO, resF, resH, resO, resV, resVL, nth, Nat.reduceBEq, Nat.reduceLT, decide_true, decide_false, List.length, List.length_cons, List.length_nil, Nat.reduceAdd, Bool.and_self, Bool.and_true, and_true, true_and, numF] <;> try simp)) (by (simp only [setn, List.nil_append, List.cons_append, leF, leH_nil, leH_cons, leF_nil, lk, scp, scpL, scpO, resF, resH, resO, resV, resVL, nth, Nat.reduceBEq, Nat.reduceLT, decide_true, decide_false, List.length, List.length_cons, List.length_nil, Nat.reduceAdd, Bool.and_self, Bool.and_true, and_true, true_and, numF] <;> try simp)))⟩⟩
  ·exact yes _ _ rfl ov rfl
end Go.Proofs.Ytbkpiljencaoeaa
