/- The document's names and clash. -/
import Derived.Test.YtbkpiljencaoeaaGrT5
import Derived.Test.YtbkpiljencaoeaaGrCodeT
set_option linter.unusedSimpArgs false
set_option linter.unusedVariables false
set_option linter.unnecessarySimpa false
namespace Go.Proofs.Ytbkpiljencaoeaa
open Go Go.Sx Go.Hs
set_option maxRecDepth 100000
theorem refnames57 (A : Option Addr) (c : Nat) (l : List Pr) (a : Int) (w : World) (hA : RowAt w A (cellsPr l)) (hl : l.length ≤ 1000000) :
  CallsV Try.prog 57 [.slice A l.length c, .int .i64 a] w fun v w' => v = .bool (namB l a) ∧ Fresh w w' := by
 refine calls_go (keep := K57) (nt := 19) (svs := [.val (.slice A l.length c), .val (.int .i64 a)]) Try.func57 x57 n57 (by simp) (by simp [IsL, Is]) fun R hR => ?_
 (refine Y_go 600 ?_; dsimp only [X57, numF, Nat.reduceAdd, zq9r, zq9q, Y_k, zq4u, zq8p, zq6p, YK, zq8t, zq9i, normF, zq6n, Nat.reduceBEq, zq6l, zq6k, zq6m, zq86, zq8a, zq87, zq9y, t57n5, T57n5, zq6q, zq9t, zq9v])
 refine loop_go (α := Nat) (fun i => i ≤ l.length ∧ ∀ p ∈ l.take i, (p.1 == a) = false) (fun _ => ⟨w, w.heap.size, [], 19, []⟩)
  (fun i => { F := [(0, .val (.slice A l.length c)), (1, .val (.int .i64 a)), (5, .val (.int .i64 i))], H := [] }) (fun i => l.length - i) (fun _ => rfl) ?start ?round
 case start =>
  intro a' W rep
  refine ⟨0, ⟨Nat.zero_le _, by simp⟩, rep.le ?_ ?_⟩ <;> (simp only [setn, List.nil_append, List.cons_append, leF, leH_nil, leH_cons, leF_nil, lk, scp, scpL, scpO, resF, resH, resO, resV, resVL, nth, Nat.reduceBEq, Nat.reduceLT, decide_true, decide_false, List.length, List.length_cons, List.length_nil, Nat.reduceAdd, Bool.and_self, Bool.and_true, and_true, true_and, numF] <;> try simp)
 case round =>
  rintro i ⟨hi, hn⟩ I again
  (refine Y_go 600 ?_; dsimp only [zq9y, t57n3, T57n3, zq9r, zq9q, Y_k, zq4u, zq8o, zq6n, Nat.reduceBEq, zq6l, zq6k, YK, zq8t, zq55, zq0r, zq50, zq04, zq92, zq9b, zq0i, zq9e, zq9i, normF, zq6m, zq86, zq87, zq9s, zq6h, zq8x, YC, zq9p, t57n2, T57n2, zq9t, zq58, zq06, zq0w, zq5a, zq16, Nat.add_zero, zq5c, zq1p, zq1c, List.nil_append, zq1b, zq18, zq9c, zq89, t57n0, T57n0, zq8p, zq6o, zq9x, zqa1, t57n1, T57n1, zq4w, zq6q, zq0e, zq8a, zqa2, zq9u, popTo, zq6i, YP, t57n4, T57n4, zq6p])
  refine ⟨fun h => ?_, fun h => ?_⟩
  ·have hlt : i < l.length := by have := of_decide_eq_true h; omega
   have c0 : CellAt ⟨w, w.heap.size, [], 19, []⟩ A ((i : Int).toNat * 2) (.int .i64 l[i].1) := by
    rw [Int.toNat_natCast]
    exact hA.cell (by rw [show i * 2 = i * 2 + 0 by omega, cellsPr_get l hlt (by omega)]; rfl)
   have htk : l.take (i + 1) = l.take i ++ [l[i]] := by rw [List.take_add_one, List.getElem?_eq_getElem hlt]; rfl
   have hm := List.getElem_mem hlt
   have sA : A.isSome = true := hA.isSome (j := i * 2) (by rw [cellsPr_len]; omega)
   generalize l[i] = p at c0 htk hm
   refine ⟨⟨by omega, by omega, sA⟩, sA, _, c0, fun hb => ?_, fun hb => ⟨((i + 1 : Nat) : Int), ArOk.to (by omega) (by omega) (by omega), lend_rule fun a' W rep => again (i + 1) ⟨hlt, fun q hq => ?_⟩ (by omega) a' W (rep.le (by (simp only [setn, List.nil_append, List.cons_append, leF, leH_nil, leH_cons, leF_nil, lk, scp, scpL, scpO, resF, resH, resO, resV, resVL, nth, Nat.reduceBEq, Nat.reduceLT, decide_true, decide_false, List.length, List.length_cons, List.length_nil, Nat.reduceAdd, Bool.and_self, Bool.and_true, and_true, true_and, numF] <;> try simp)) (by (simp only [setn, List.nil_append, List.cons_append, leF, leH_nil, leH_cons, leF_nil, lk, scp, scpL, scpO, resF, resH, resO, resV, resVL, nth, Nat.reduceBEq, Nat.reduceLT, decide_true, decide_false, List.length, List.length_cons, List.length_nil, Nat.reduceAdd, Bool.and_self, Bool.and_true, and_true, true_and, numF] <;> try simp)))⟩⟩
   ·exact ret_rule (vs := [.bool true]) r57 rfl rfl fun W hW => hR _ _ ⟨by unfold namB; rw [List.any_eq_true.2 ⟨p, hm, hb⟩]; rfl, hW.fresh'⟩
   ·rw [htk] at hq
    rcases List.mem_append.1 hq with h | h
    ·exact hn q h
    ·simp only [List.mem_singleton] at h; subst h; exact hb
  ·have hil : i = l.length := by have := of_decide_eq_false h; omega
   subst hil
   rw [List.take_of_length_le (Nat.le_refl _)] at hn
   refine ret_rule (vs := [.bool false]) r57 rfl rfl fun W hW => hR _ _ ⟨?_, hW.fresh'⟩
   have : namB l a = false := by unfold namB; rw [List.any_eq_false]; intro p hp; rw [hn p hp]; simp
   rw [this]; rfl
theorem refclash34 (x y : At) (h k : Hd) (w : World) (hx2 : RowAt w h.sA (cellsPr x.stores)) (hy1 : RowAt w k.lA (cellsPr y.loads)) (hy2 : RowAt w k.sA (cellsPr y.stores))
  (l2 : x.stores.length ≤ 1000000) (l3 : y.loads.length ≤ 1000000) (l4 : y.stores.length ≤ 1000000) :
  CallsV Try.prog 34 [valT x h, valT y k] w fun v w' => v = .bool (clsR x y) ∧ Fresh w w' := by
 refine calls_go (keep := K34) (nt := 30) (svs := [svT x h, svT y k]) Try.func34 x34 n34 (by simp) (by simp [IsL, Is, svT, valT]) fun R hR => ?_
 unfold svT
 (refine Y_go 600 ?_; dsimp only [X34, numF, Nat.reduceAdd, zq9r, zq9q, Y_k, zq5f, zq8o, zq6n, Nat.reduceBEq, zq6k, zq7t, List.length_cons, List.length_nil, zq8l, zq73, zq8m, zq77, zq7g, zq8k, zq0a, zq1z, List.nil_append, YK, zq8t, zq6l, List.cons_append, zq4u, zq8p, zq6p, zq9i, normF, zq6m, zq86, zq8a, zq8c, zq88, zq9y, t34n6, T34n6, zq6q, zq87, zq9t, zq9v])
 intro g g1
 refine loop_go (α := Nat) (fun i => i ≤ x.stores.length ∧ ∀ p ∈ x.stores.take i, (namB y.loads p.1 || namB y.stores p.1) = false) (fun _ => ⟨w, w.heap.size, [], 30, []⟩)
  (fun i => { F := [(2, .ptr 0 0), (3, .ptr 1 0), (5, .val (.int .i64 i))], H := [.cells g 75 (svL x h), .cells g1 75 (svL y k)] }) (fun i => x.stores.length - i) (fun _ => rfl) ?start ?round
 case start =>
  intro a W rep
  exact ⟨0, ⟨Nat.zero_le _, by simp⟩, rep.le (by (simp only [setn, List.nil_append, List.cons_append, leF, leH_nil, leH_cons, leF_nil, lk, scp, scpL, scpO, resF, resH, resO, resV, resVL, nth, Nat.reduceBEq, Nat.reduceLT, decide_true, decide_false, List.length, List.length_cons, List.length_nil, Nat.reduceAdd, Bool.and_self, Bool.and_true, and_true, true_and, numF] <;> try simp)) (by simp only [svL]; (simp only [setn, List.nil_append, List.cons_append, leF, leH_nil, leH_cons, leF_nil, lk, scp, scpL, scpO, resF, resH, resO, resV, resVL, nth, Nat.reduceBEq, Nat.reduceLT, decide_true, decide_false, List.length, List.length_cons, List.length_nil, Nat.reduceAdd, Bool.and_self, Bool.and_true, and_true, true_and, numF] <;> try simp))⟩
 case round =>
  rintro i ⟨hi, hn⟩ I again
  (refine Y_go 600 ?_; dsimp only [svL, zq9y, t34n4, T34n4, zq9r, zq9q, Y_k, zq4u, zq8o, zq6n, Nat.reduceBEq, zq6l, zq6k, YK, zq8t, zq5a, zq14, Nat.reduceAdd, zq5c, zq1o, nth, zq1k, List.length_cons, List.length_nil, dropL, takeL, zq19, zq18, zq55, zq0r, zq50, zq04, zq92, zq9b, zq0i, zq9e, zq9i, normF, zq6m, zq86, zq87, zq8c, zq9s, zq6h, zq8x, YC, zq9p, t34n3, T34n3, zq9t, zq58, zq06, zq0w, zq16, Nat.add_zero, zq1p, zq1c, List.nil_append, zq1b, zq89, t34n1, T34n1, zq9j, zq9u, popTo, zq6i, YP, t34n5, T34n5, zq8p, zq6p, zq8a, zq9x])
  refine ⟨fun hlt => ?_, fun hge => ?_⟩
  ·have hlt : i < x.stores.length := by have := of_decide_eq_true hlt; omega
   have c0 : CellAt ⟨w, w.heap.size, [], 30, []⟩ h.sA ((i : Int).toNat * 2) (.int .i64 x.stores[i].1) := by
    rw [Int.toNat_natCast]
    exact hx2.cell (by rw [show i * 2 = i * 2 + 0 by omega, cellsPr_get _ hlt (by omega)]; rfl)
   have htk : x.stores.take (i + 1) = x.stores.take i ++ [x.stores[i]] := by rw [List.take_add_one, List.getElem?_eq_getElem hlt]; rfl
   have hm := List.getElem_mem hlt
   have sA : h.sA.isSome = true := hx2.isSome (j := i * 2) (by rw [cellsPr_len]; omega)
   generalize x.stores[i] = p at c0 htk hm
   have yes : (namB y.loads p.1 || namB y.stores p.1) = true → clsR x y = true := fun hb => by
    unfold clsR
    exact List.any_eq_true.2 ⟨p, hm, hb⟩
   refine ⟨⟨by omega, by omega, sA⟩, sA, _, c0, ?_⟩
   refine call_val (R := fun v => v = .bool (namB y.loads p.1)) (vs := [.slice k.lA y.loads.length k.lc, .int .i64 p.1]) rfl (fun W hW => refnames57 k.lA k.lc y.loads p.1 W (hy1.keep hW.fresh') l3) fun v hv => ?_
   cases hb : namB y.loads p.1 with
   | true =>
    rw [hb] at hv
    refine ⟨.bt, by rw [hv]; simp [Is], ?_⟩
    dsimp only [zq8t]
    (refine Y_go 600 ?_; dsimp only [Y_k, zq4u, zq8o, zq6n, Nat.reduceBEq, zq6k, YK, zq8t, Y_gk, zq6a, YS, zq6l, zq9l, zq4v, zq8p, zq6o, zq0b, zq9i, normF, zq6m, zq89, zq87, zq86, zq8c, zq9s, zq6f, YC, zq9y, t34n0, T34n0, zq9r, zq9q, zq9x])
    exact ret_rule (vs := [.bool true]) r34 rfl rfl fun W hW => hR _ _ ⟨by rw [yes (by rw [hb]; rfl)]; rfl, hW.fresh'⟩
   | false =>
    rw [hb] at hv
    refine ⟨.bf, by rw [hv]; simp [Is], ?_⟩
    dsimp only [zq8t]
    (refine Y_go 600 ?_; dsimp only [Y_k, zq4u, zq8o, zq6n, Nat.reduceBEq, zq6k, YK, zq8t, Y_gk, zq6c, YR, zq5a, zq6l, zq14, Nat.reduceAdd, zq5c, zq1o, nth, zq1k, List.length_cons, List.length_nil, dropL, takeL, zq19, zq18, zq9l, YG])
    refine call_val (R := fun v => v = .bool (namB y.stores p.1)) (vs := [.slice k.sA y.stores.length k.sc, .int .i64 p.1]) rfl (fun W hW => refnames57 k.sA k.sc y.stores p.1 W (hy2.keep hW.fresh') l4) fun v hv => ⟨.val (.bool (namB y.stores p.1)), by rw [hv]; simp [Is], ?_⟩
    dsimp only [zq8t]
    (refine Y_go 600 ?_; dsimp only [Y_k, zq4v, zq8p, zq6o, zq8o, zq6n, Nat.reduceBEq, zq6k, zq6l, zq0c, YK, zq8t, zq9i, normF, zq6m, zq87, zq89, zq86, zq8c, zq9s, zq6h, zq8x, YC, zq9y, t34n0, T34n0, zq9r, zq9q, zq4u, zq9x, zq9p, zqa1, t34n2, T34n2, zq4w, zq6q, zq04, zq92, zq9b, zq0e, zq8a, zqa2])
    refine ⟨fun hb2 => ?_, fun hb2 => ⟨((i + 1 : Nat) : Int), ArOk.to (by omega) (by omega) (by omega), lend_rule fun a W rep => again (i + 1) ⟨hlt, fun q hq => ?_⟩ (by omega) a W (rep.le (by (simp only [setn, List.nil_append, List.cons_append, leF, leH_nil, leH_cons, leF_nil, lk, scp, scpL, scpO, resF, resH, resO, resV, resVL, nth, Nat.reduceBEq, Nat.reduceLT, decide_true, decide_false, List.length, List.length_cons, List.length_nil, Nat.reduceAdd, Bool.and_self, Bool.and_true, and_true, true_and, numF] <;> try simp)) (by simp only [svL]; (simp only [setn, List.nil_append, List.cons_append, leF, leH_nil, leH_cons, leF_nil, lk, scp, scpL, scpO, resF, resH, resO, resV, resVL, nth, Nat.reduceBEq, Nat.reduceLT, decide_true, decide_false, List.length, List.length_cons, List.length_nil, Nat.reduceAdd, Bool.and_self, Bool.and_true, and_true, true_and, numF] <;> try simp)))⟩⟩
    ·exact ret_rule (vs := [.bool true]) r34 rfl rfl fun W hW => hR _ _ ⟨by rw [yes (by rw [hb, hb2]; rfl)]; rfl, hW.fresh'⟩
    ·rw [htk] at hq
     rcases List.mem_append.1 hq with h9 | h9
     ·exact hn q h9
     ·simp only [List.mem_singleton] at h9; subst h9
      rw [hb, hb2]; rfl
  ·have hie : i = x.stores.length := by have := of_decide_eq_false hge; omega
   subst hie
   rw [List.take_of_length_le (Nat.le_refl _)] at hn
   have hno : clsR x y = false := by
    unfold clsR; rw [List.any_eq_false]; intro p hp; rw [hn p hp]; simp
   exact ret_rule (vs := [.bool false]) r34 rfl rfl fun W hW => hR _ _ ⟨by rw [hno]; rfl, hW.fresh'⟩
end Go.Proofs.Ytbkpiljencaoeaa
