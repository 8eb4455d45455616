/- The document's graphs (1): may it be; two lists; who is right behind whom. -/
import Derived.Test.YtbkpiljencaoeaaGrAl
import Derived.Test.YtbkpiljencaoeaaGrPlain
import Derived.Test.YtbkpiljencaoeaaGrCode
set_option linter.unusedSimpArgs false
set_option linter.unusedVariables false
set_option linter.unnecessarySimpa false
namespace Go.Proofs.Ytbkpiljencaoeaa
open Go Go.Sx Go.Gr
set_option maxRecDepth 100000
theorem edE_cell0 {E : Env} {A : Option Addr} {l : List Ed} (h : RowE E A (cellsD l)) {k : Nat} {e : Ed} (hk : l[k]? = some e) : CellAt E A ((k : Int).toNat * 2) (.int .i64 e.1) ∧ CellAt E A ((k : Int).toNat * 2 + 1) (.int .i64 e.2) := by
 obtain ⟨hlt, rfl⟩ := List.getElem?_eq_some_iff.1 hk
 rw [Int.toNat_natCast]
 exact ⟨h.cell (by rw [show k * 2 = k * 2 + 0 by omega, cellsD_get l hlt (by omega)]; rfl), h.cell (by rw [cellsD_get l hlt (by omega)]; rfl)⟩
theorem tabE {w' : World} {B : Option Addr} {gs : Nat → Nat} {M : Nat → Nat → Bool} {r n : Nat} (h : TabAt w' B gs M r n) (nt : Nat) (mk : List Nat) : RowE ⟨w', w'.heap.size, [], nt, mk⟩ B (tabV gs r n) ∧ ∀ a, a < r → RowE ⟨w', w'.heap.size, [], nt, mk⟩ (some ⟨gs a, 0, none⟩) (rwV n (M a)) :=
 ⟨h.1.toE (st := []) (by simp) nt mk, fun a ha => (h.2 a ha).toE (st := []) (by simp) nt mk⟩
theorem may13 (A : Option Addr) (c : Nat) (n : Int) (l : List Ed) (w : World) (hA : RowAt w A (cellsD l)) :
  CallsV Try.prog 13 [.int .i64 n, .slice A l.length c] w fun v w' => v = .bool (decide (okG n l)) ∧ Fresh w w' := by
 refine calls_go (keep := K13) (nt := 55) (svs := [.val (.int .i64 n), .val (.slice A l.length c)]) Try.func13 x13 n13 (by simp) (by simp [IsL, Is]) fun R hR => ?_
 (refine Y_go 600 ?_; dsimp only [X13, numF, Nat.reduceAdd, zq9r, zq9q, Y_k, zq4u, zq8p, zq6p, YK, zq8t, zq9i, normF, zq6n, Nat.reduceBEq, zq6l, zq6k, zq6m, zq86, zq8a, zq87, zq9y, t13n7, T13n7, zq8o, zq50, zq6q, zq04, zq92, zq9b, zq0i, zq9e, Y_gk, zq6e, YS, zq6a, zq4v, zq6o, zq0b, zq89, zq9s, zq6f, YC, t13n0, T13n0, zq9x, YR, zq6c, zq9g, zq0c, zq55, zq0r, zq6h, zq8x, zq9p, t13n6, T13n6, zq9t, zq9v])
 have no : ¬ okG n l → ∀ s, denAll s.H s.F [4] = some [.bool false] → RetG (cxOf Try.prog Try.f13 K13 T13 R) ⟨w, w.heap.size, [], 55, []⟩ s := fun hk s hs =>
  ret_rule (vs := [.bool false]) r13 rfl hs fun W hW => hR _ _ ⟨by rw [decide_eq_false hk]; rfl, hW.fresh'⟩
 refine ⟨fun q => no (fun h => by have := of_decide_eq_true q; unfold okG at h; omega) _ rfl, fun q1 => ⟨fun q => no (fun h => by have := of_decide_eq_true q; unfold okG at h; omega) _ rfl, fun q2 => ⟨fun q => no (fun h => by have := of_decide_eq_true q; unfold okG at h; omega) _ rfl, fun q3 => ?_⟩⟩⟩
 have q1 : 0 ≤ n := by have := of_decide_eq_false q1; omega
 have q2 : n ≤ 500 := by have := of_decide_eq_false q2; omega
 have q3 : l.length ≤ 20000 := by have := of_decide_eq_false q3; omega
 refine loop_go (α := Nat) (fun i => i ≤ l.length ∧ ∀ e ∈ l.take i, 0 ≤ e.1 ∧ e.1 < n ∧ 0 ≤ e.2 ∧ e.2 < n) (fun _ => ⟨w, w.heap.size, [], 55, []⟩)
  (fun i => { F := [(0, .val (.int .i64 n)), (1, .val (.slice A l.length c)), (5, .val (.int .i64 i))], H := [] }) (fun i => l.length - i) (fun _ => rfl) ?start ?round
 case start =>
  intro a W rep
  exact ⟨0, ⟨Nat.zero_le _, by simp⟩, rep.le (by (simp only [setn, List.nil_append, List.cons_append, leF, leH_nil, leH_cons, leF_nil, lk, scp, scpL, scpO, resF, resH, resO, resV, resVL, nth, Nat.reduceBEq, Nat.reduceLT, decide_true, decide_false, List.length, List.length_cons, List.length_nil, Nat.reduceAdd, Bool.and_self, Bool.and_true, and_true, true_and, numF] <;> try simp)) (by (simp only [setn, List.nil_append, List.cons_append, leF, leH_nil, leH_cons, leF_nil, lk, scp, scpL, scpO, resF, resH, resO, resV, resVL, nth, Nat.reduceBEq, Nat.reduceLT, decide_true, decide_false, List.length, List.length_cons, List.length_nil, Nat.reduceAdd, Bool.and_self, Bool.and_true, and_true, true_and, numF] <;> try simp))⟩
 case round =>
  rintro i ⟨hi, hin⟩ I again
  (refine Y_go 600 ?_; dsimp only [zq9y, t13n4, T13n4, zq9r, zq9q, Y_k, zq4u, zq8o, zq6n, Nat.reduceBEq, zq6l, zq6k, YK, zq8t, zq55, zq0r, zq50, zq04, zq92, zq9b, zq0i, zq9e, zq9i, normF, zq6m, zq86, zq87, zq9s, zq6h, zq8x, YC, zq9p, t13n3, T13n3, zq9t, zq58, zq06, zq0w, zq59, zq8p, zq6q, zq12, Int.reduceToNat, Nat.reduceMul, Nat.add_zero, zq5c, zq1p, zq1c, List.nil_append, zq1b, zq18, Y_gk, zq6e, YS, zq6a, zq4v, zq6o, zq0b, zq89, zq6f, t13n1, T13n1, zq6p, zq8a, zq9x, YR, zq6c, zq9h, zq0c, zqa1, t13n2, T13n2, zq4w, zq0e, zqa2, zq9u, popTo, zq6i, YP, t13n5, T13n5])
  refine ⟨fun hlt => ?_, fun hge => ?_⟩
  ·have hlt : i < l.length := by have := of_decide_eq_true hlt; omega
   have hg := List.getElem?_eq_getElem hlt
   have hml := List.getElem_mem hlt
   have htk : l.take (i + 1) = l.take i ++ [l[i]] := by rw [List.take_add_one, hg]; rfl
   obtain ⟨ca, cb⟩ := edE_cell0 (hA.toE (st := []) (by simp) 55 []) hg
   have sA : A.isSome = true := hA.isSome (j := i * 2) (by rw [cellsD_len]; omega)
   generalize l[i] = d at htk ca cb hml
   have bA : 0 ≤ (i : Int) ∧ (i : Int) < (l.length : Int) ∧ A.isSome = true := ⟨by omega, by omega, sA⟩
   have b0 : (0 : Int) ≤ 0 ∧ (0 : Int) < ((2 : Nat) : Int) ∧ A.isSome = true := ⟨by omega, by omega, sA⟩
   have b1 : (0 : Int) ≤ 1 ∧ (1 : Int) < ((2 : Nat) : Int) ∧ A.isSome = true := ⟨by omega, by omega, sA⟩
   have bad : ¬ (0 ≤ d.1 ∧ d.1 < n ∧ 0 ≤ d.2 ∧ d.2 < n) → ¬ okG n l := fun h1 h => h1 (h.2.2.2 _ hml)
   refine ⟨bA, b0, _, ca, fun q => no (bad fun h => by have := of_decide_eq_true q; omega) _ rfl, fun p1 => ⟨bA, b0, _, ca, fun q => no (bad fun h => by have := of_decide_eq_true q; omega) _ rfl, fun p2 => ⟨bA, b1, _, cb, fun q => no (bad fun h => by have := of_decide_eq_true q; omega) _ rfl, fun p3 => ⟨bA, b1, _, cb, fun q => no (bad fun h => by have := of_decide_eq_true q; omega) _ rfl, fun p4 => ?_⟩⟩⟩⟩
   refine ⟨((i + 1 : Nat) : Int), ArOk.to (by omega) (by omega) (by omega), lend_rule fun a W rep => again (i + 1) ⟨hlt, fun e he => ?_⟩ (by omega) a W (rep.le (by (simp only [setn, List.nil_append, List.cons_append, leF, leH_nil, leH_cons, leF_nil, lk, scp, scpL, scpO, resF, resH, resO, resV, resVL, nth, Nat.reduceBEq, Nat.reduceLT, decide_true, decide_false, List.length, List.length_cons, List.length_nil, Nat.reduceAdd, Bool.and_self, Bool.and_true, and_true, true_and, numF] <;> try simp)) (by (simp only [setn, List.nil_append, List.cons_append, leF, leH_nil, leH_cons, leF_nil, lk, scp, scpL, scpO, resF, resH, resO, resV, resVL, nth, Nat.reduceBEq, Nat.reduceLT, decide_true, decide_false, List.length, List.length_cons, List.length_nil, Nat.reduceAdd, Bool.and_self, Bool.and_true, and_true, true_and, numF] <;> try simp)))⟩
   rw [htk] at he
   rcases List.mem_append.1 he with h | h
   ·exact hin e h
   ·simp only [List.mem_singleton] at h; subst h
    have := of_decide_eq_false p1; have := of_decide_eq_false p2; have := of_decide_eq_false p3; have := of_decide_eq_false p4
    omega
  ·have hie : i = l.length := by have := of_decide_eq_false hge; omega
   subst hie
   rw [List.take_of_length_le (Nat.le_refl _)] at hin
   exact ret_rule (vs := [.bool true]) r13 rfl rfl fun W hW => hR _ _ ⟨by rw [decide_eq_true (show okG n l from ⟨q1, q2, q3, hin⟩)]; rfl, hW.fresh'⟩
theorem ints17 (A B : Option Addr) (c d : Nat) (l m : List Int) (w : World) (hA : RowAt w A (isV l)) (hB : RowAt w B (isV m)) (hl : l.length ≤ 2000000)
   : CallsV Try.prog 17 [.slice A l.length c, .slice B m.length d] w fun v w' => v = .bool (decide (l = m)) ∧ Fresh w w' := by
 refine calls_go (keep := K17) (nt := 26) (svs := [.val (.slice A l.length c), .val (.slice B m.length d)]) Try.func17 x17 n17 (by simp) (by simp [IsL, Is]) fun R hR => ?_
 have no : l ≠ m → ∀ s, denAll s.H s.F [4] = some [.bool false] → RetG (cxOf Try.prog Try.f17 K17 T17 R) ⟨w, w.heap.size, [], 26, []⟩ s := fun hk s hs =>
  ret_rule (vs := [.bool false]) r17 rfl hs fun W hW => hR _ _ ⟨by rw [decide_eq_false hk]; rfl, hW.fresh'⟩
 (refine Y_go 600 ?_; dsimp only [X17, numF, Nat.reduceAdd, zq9r, zq9q, Y_k, zq4u, zq8p, zq6p, YK, zq8t, zq9i, normF, zq6n, Nat.reduceBEq, zq6l, zq6k, zq6m, zq86, zq8a, zq87, zq9y, t17n7, T17n7, zq8o, zq55, zq0r, zq50, zq04, zq92, zq9b, zq0i, zq9d, zq9s, zq6h, zq8x, YC, t17n0, T17n0, zq89, zq9x, zq9p, t17n6, T17n6, zq6q, zq9t, zq9v])
 refine ⟨fun h => no (fun e => by simp [e] at h) _ rfl, fun h => ?_⟩
 have hlm : l.length = m.length := by have : (l.length : Int) = m.length := by simpa using h
                                      omega
 refine loop_go (α := Nat) (fun i => i ≤ l.length ∧ l.take i = m.take i) (fun _ => ⟨w, w.heap.size, [], 26, []⟩)
   (fun i => { F := [(0, .val (.slice A l.length c)), (1, .val (.slice B m.length d)), (5, .val (.int .i64 i))], H := [] }) (fun i => l.length - i) (fun _ => rfl) ?start ?round
 case start =>
  intro a W rep
  refine ⟨0, ⟨Nat.zero_le _, by simp⟩, rep.le ?_ ?_⟩ <;> (simp only [setn, List.nil_append, List.cons_append, leF, leH_nil, leH_cons, leF_nil, lk, scp, scpL, scpO, resF, resH, resO, resV, resVL, nth, Nat.reduceBEq, Nat.reduceLT, decide_true, decide_false, List.length, List.length_cons, List.length_nil, Nat.reduceAdd, Bool.and_self, Bool.and_true, and_true, true_and, numF] <;> try simp)
 case round =>
  rintro i ⟨hi, ht⟩ I again
  (refine Y_go 600 ?_; dsimp only [zq9y, t17n4, T17n4, zq9r, zq9q, Y_k, zq4u, zq8o, zq6n, Nat.reduceBEq, zq6l, zq6k, YK, zq8t, zq55, zq0r, zq50, zq04, zq92, zq9b, zq0i, zq9e, zq9i, normF, zq6m, zq86, zq87, zq9s, zq6h, zq8x, YC, zq9p, t17n3, T17n3, zq9t, zq58, zq06, zq0w, zq5c, zq1p, zq1c, List.nil_append, zq1b, zq18, zq9d, zq89, t17n1, T17n1, zq8p, zq6p, zq8a, zq9x, zqa1, t17n2, T17n2, zq4w, zq6q, zq0e, zqa2, zq9u, popTo, zq6i, YP, t17n5, T17n5, zq6o])
  refine ⟨fun hlt => ?_, fun hge => ?_⟩
  ·have hlt : i < l.length := by have := of_decide_eq_true hlt; omega
   have hlt' : i < m.length := by omega
   have hg := List.getElem?_eq_getElem hlt
   have hg' := List.getElem?_eq_getElem hlt'
   have ca := (hA.toE (st := []) (by simp) 26 []).cell (isV_get l i _ hg)
   have cb := (hB.toE (st := []) (by simp) 26 []).cell (isV_get m i _ hg')
   have sA : A.isSome = true := hA.isSome (j := i) (by rw [isV_len]; omega)
   have sB : B.isSome = true := hB.isSome (j := i) (by rw [isV_len]; omega)
   refine ⟨⟨by omega, by omega, sA⟩, _, by rw [Int.toNat_natCast, Nat.mul_one]; exact ca, ⟨by omega, by omega, sB⟩, _, by rw [Int.toNat_natCast, Nat.mul_one]; exact cb, fun h => no (fun e => ?_) _ rfl, fun h => ⟨((i + 1 : Nat) : Int), ArOk.to (by omega) (by omega) (by omega), lend_rule fun a W rep => again (i + 1) ⟨hlt, ?_⟩ (by omega) a W (rep.le (by (simp only [setn, List.nil_append, List.cons_append, leF, leH_nil, leH_cons, leF_nil, lk, scp, scpL, scpO, resF, resH, resO, resV, resVL, nth, Nat.reduceBEq, Nat.reduceLT, decide_true, decide_false, List.length, List.length_cons, List.length_nil, Nat.reduceAdd, Bool.and_self, Bool.and_true, and_true, true_and, numF] <;> try simp)) (by (simp only [setn, List.nil_append, List.cons_append, leF, leH_nil, leH_cons, leF_nil, lk, scp, scpL, scpO, resF, resH, resO, resV, resVL, nth, Nat.reduceBEq, Nat.reduceLT, decide_true, decide_false, List.length, List.length_cons, List.length_nil, Nat.reduceAdd, Bool.and_self, Bool.and_true, and_true, true_and, numF] <;> try simp)))⟩⟩
   ·subst e; simp at h
   ·have h : l[i] = m[i] := by simpa using h
    rw [List.take_add_one, List.take_add_one, hg, hg', ht, h]
  ·have hie : i = l.length := by have := of_decide_eq_false hge; omega
   subst hie
   rw [List.take_of_length_le (Nat.le_refl _), List.take_of_length_le (by omega)] at ht
   exact ret_rule (vs := [.bool true]) r17 rfl rfl fun W hW => hR _ _ ⟨by rw [decide_eq_true ht]; rfl, hW.fresh'⟩
end Go.Proofs.Ytbkpiljencaoeaa
