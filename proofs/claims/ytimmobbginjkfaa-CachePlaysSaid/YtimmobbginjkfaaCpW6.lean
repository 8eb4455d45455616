/- CachePlays: the document's New and Same. -/
import Derived.Test.YtimmobbginjkfaaCpW5
import Derived.Test.YtimmobbginjkfaaCaW8
import Derived.Test.YtimmobbginjkfaaCaCodeR
set_option linter.unusedSimpArgs false
set_option linter.unusedVariables false
set_option linter.unnecessarySimpa false
namespace Go.Proofs.Ytimmobbginjkfaa
open Go Go.Sx Go.Ca
set_option maxRecDepth 100000
def newB (sets ways : Int) : Bool := decide (sets < 1) || decide (sets > 8) || decide (ways < 1) || decide (ways > 4)
theorem new16 (sets ways : Int) (w : World) : CallsV Try.prog 16 [.int .i64 sets, .int .i64 ways] w fun v w' => v = (if newB sets ways then .tuple #[.agg #[.int .i64 0, .int .i64 0, .slice none 0 0, .int .i64 0], .int .i64 2] else .tuple #[.agg #[.int .i64 sets, .int .i64 ways, .slice none 0 0, .int .i64 0], .int .i64 0]) ∧ Fresh w w' := by
 refine calls_go (keep := K16) (nt := 24) (svs := [.val (.int .i64 sets), .val (.int .i64 ways)]) Try.func16 x16 n16 (by simp) (by simp [IsL, Is]) fun R hR => ?_
 (refine Y_go 600 ?_; dsimp only [X16, numF, Nat.reduceAdd, zq9r, zq9q, Y_k, zq5e, List.length_nil, List.map, zq6q, zq6u, List.nil_append, YK, zq8t, zq4u, zq8p, zq9i, normF, zq6n, Nat.reduceBEq, zq6l, zq6k, zq6m, zq86, zq87, zq8c, zq9y, t16n2, T16n2, zq8o, zq50, zq04, zq92, zq9b, zq0i, zq9e, Y_gk, zq6e, YS, zq6a, zq4v, zq6o, zq0b, zq89, zq9s, zq6f, YC, t16n0, T16n0, zq5g, zq22, zq25, zq5d, zq7t, List.length_cons, zq8l, zq73, zq8m, zq77, zq8k, zq0a, zq1x, nth, zq1t, dropL, takeL, zq1r, splice, setn, zq8s, zq9x, YR, zq6c, zq9g, zq0c, zq6h, zq8x, zq9p, t16n1, T16n1, zq21, zq7u, zq20, zq8a])
 intro g
 refine ⟨fun h1 => ?_, fun h1 => ⟨fun h2 => ?_, fun h2 => ⟨fun h3 => ?_, fun h3 => ⟨fun h4 => ?_, fun h4 => ?_⟩⟩⟩⟩
 ·exact ret_rv (vs := [.agg #[.int .i64 0, .int .i64 0, .slice none 0 0, .int .i64 0], .int .i64 2]) r16 rfl rfl fun W hW => hR _ _ ⟨by rw [if_pos (by unfold newB; rw [h1]; rfl)]; rfl, hW.fresh'⟩
 ·exact ret_rv (vs := [.agg #[.int .i64 0, .int .i64 0, .slice none 0 0, .int .i64 0], .int .i64 2]) r16 rfl rfl fun W hW => hR _ _ ⟨by rw [if_pos (by unfold newB; rw [h1]; simp only [gt_iff_lt] at h2; rw [h2]; rfl)]; rfl, hW.fresh'⟩
 ·exact ret_rv (vs := [.agg #[.int .i64 0, .int .i64 0, .slice none 0 0, .int .i64 0], .int .i64 2]) r16 rfl rfl fun W hW => hR _ _ ⟨by rw [if_pos (by unfold newB; rw [h3]; simp)]; rfl, hW.fresh'⟩
 ·exact ret_rv (vs := [.agg #[.int .i64 0, .int .i64 0, .slice none 0 0, .int .i64 0], .int .i64 2]) r16 rfl rfl fun W hW => hR _ _ ⟨by rw [if_pos (by unfold newB; rw [h4]; simp)]; rfl, hW.fresh'⟩
 ·exact ret_rv (vs := [.agg #[.int .i64 sets, .int .i64 ways, .slice none 0 0, .int .i64 0], .int .i64 0]) r16 rfl rfl fun W hW => hR _ _ ⟨by rw [if_neg (by unfold newB; rw [h1, h2, h3, h4]; simp)]; rfl, hW.fresh'⟩
theorem same18 (A B : Option Addr) (ac bc : Nat) (l : List En) (w : World) (hA : RowAt w A (esV l)) (hB : RowAt w B (esV l)) (hl : l.length ≤ 1000) : CallsV Try.prog 18 [.slice A l.length ac, .slice B l.length bc] w fun v w' => v = .bool true ∧ Fresh w w' := by
 refine calls_go (keep := K18) (nt := 26) (svs := [.val (.slice A l.length ac), .val (.slice B l.length bc)]) Try.func18 x18 n18 (by simp) (by simp [IsL, Is]) fun R hR => ?_
 (refine Y_go 600 ?_; dsimp only [X18, numF, Nat.reduceAdd, zq9r, zq9q, Y_k, zq4u, zq8p, zq6p, YK, zq8t, zq9i, normF, zq6n, Nat.reduceBEq, zq6l, zq6k, zq6m, zq86, zq8a, zq87, zq9y, t18n7, T18n7, zq8o, zq55, zq0r, zq50, zq04, zq92, zq9b, zq0i, zq9d, zq9s, zq6h, zq8x, YC, t18n0, T18n0, zq89, zq9x, zq9p, t18n6, T18n6, zq6q, zq9t, zq9v])
 refine ⟨fun h => absurd h (by simp), fun _ => ?_⟩
 have cA : ∀ {i k m : Nat} {v : Value} (hi : i < l.length), m = (i : Int).toNat * 21 + k → (enV l[i])[k]? = some v → CellAt ⟨w, w.heap.size, [], 26, []⟩ A m v := by
  intro i k m v hi hm hk
  exact hA.cell (esV_atm k hi (by omega) hk)
 have cB : ∀ {i k m : Nat} {v : Value} (hi : i < l.length), m = (i : Int).toNat * 21 + k → (enV l[i])[k]? = some v → CellAt ⟨w, w.heap.size, [], 26, []⟩ B m v := by
  intro i k m v hi hm hk
  exact hB.cell (esV_atm k hi (by omega) hk)
 have sA : 0 < l.length → A.isSome = true := fun h => RowAt.isSome hA (j := 0) (by rw [esV_len]; omega)
 have sB : 0 < l.length → B.isSome = true := fun h => RowAt.isSome hB (j := 0) (by rw [esV_len]; omega)
 refine loop_go (α := Nat) (fun i => i ≤ l.length) (fun _ => ⟨w, w.heap.size, [], 26, []⟩)
  (fun i => { F := [(0, .val (.slice A l.length ac)), (1, .val (.slice B l.length bc)), (4, .bf), (5, .val (.int .i64 i))], H := [] }) (fun i => l.length - i) (fun _ => rfl) ?start ?round
 case start =>
  intro a W rep
  exact ⟨0, Nat.zero_le _, rep.le (by (simp only [setn, List.nil_append, List.cons_append, leF, leH_nil, leH_cons, leF_nil, lk, scp, scpL, scpO, resF, resH, resO, resV, resVL, nth, Nat.reduceBEq, Nat.reduceLT, decide_true, decide_false, List.length, List.length_cons, List.length_nil, Nat.reduceAdd, Bool.and_self, Bool.and_true, and_true, true_and, numF] <;> try simp)) (by (simp only [setn, List.nil_append, List.cons_append, leF, leH_nil, leH_cons, leF_nil, lk, scp, scpL, scpO, resF, resH, resO, resV, resVL, nth, Nat.reduceBEq, Nat.reduceLT, decide_true, decide_false, List.length, List.length_cons, List.length_nil, Nat.reduceAdd, Bool.and_self, Bool.and_true, and_true, true_and, numF] <;> try simp))⟩
 case round =>
  rintro i hi I again
  (refine Y_go 600 ?_; dsimp only [zq9y, t18n4, T18n4, zq9r, zq9q, Y_k, zq4u, zq8o, zq6n, Nat.reduceBEq, zq6l, zq6k, YK, zq8t, zq55, zq0r, zq50, zq04, zq92, zq9b, zq0i, zq9e, zq9i, normF, zq6m, zq86, zq87, zq8a, zq9s, zq6h, zq8x, YC, zq9p, t18n3, T18n3, zq9t, zq58, zq06, zq0w, zq5c, zq1p, zq1c, List.nil_append, List.cons_append, zq1d, zq1b, zq17, zq5s, zq3o, eqSV, zq8w, zq96, zq3p, zq89, t18n1, T18n1, zq8p, zq6p, zq9x, zqa1, t18n2, T18n2, zq4w, zq6q, zq0e, zqa2, zq9u, popTo, zq6i, YP, t18n5, T18n5, zq6o])
  refine ⟨fun hlt => ?_, fun _ => ?_⟩
  ·have hlt : i < l.length := by have := of_decide_eq_true hlt; omega
   refine ⟨⟨by omega, by omega, sA (by omega)⟩, _, cA (k := 0) hlt (by omega) rfl, _, cA (k := 1) hlt (by omega) rfl, _, cA (k := 2) hlt (by omega) rfl, _, cA (k := 3) hlt (by omega) rfl, _, cA (k := 4) hlt (by omega) rfl, _, cA (k := 5) hlt (by omega) rfl, _, cA (k := 6) hlt (by omega) rfl, _, cA (k := 7) hlt (by omega) rfl, _, cA (k := 8) hlt (by omega) rfl, _, cA (k := 9) hlt (by omega) rfl, _, cA (k := 10) hlt (by omega) rfl, _, cA (k := 11) hlt (by omega) rfl, _, cA (k := 12) hlt (by omega) rfl, _, cA (k := 13) hlt (by omega) rfl, _, cA (k := 14) hlt (by omega) rfl, _, cA (k := 15) hlt (by omega) rfl, _, cA (k := 16) hlt (by omega) rfl, _, cA (k := 17) hlt (by omega) rfl, _, cA (k := 18) hlt (by omega) rfl, _, cA (k := 19) hlt (by omega) rfl, _, cA (k := 20) hlt (by omega) rfl, ⟨by omega, by omega, sB (by omega)⟩, _, cB (k := 0) hlt (by omega) rfl, _, cB (k := 1) hlt (by omega) rfl, _, cB (k := 2) hlt (by omega) rfl, _, cB (k := 3) hlt (by omega) rfl, _, cB (k := 4) hlt (by omega) rfl, _, cB (k := 5) hlt (by omega) rfl, _, cB (k := 6) hlt (by omega) rfl, _, cB (k := 7) hlt (by omega) rfl, _, cB (k := 8) hlt (by omega) rfl, _, cB (k := 9) hlt (by omega) rfl, _, cB (k := 10) hlt (by omega) rfl, _, cB (k := 11) hlt (by omega) rfl, _, cB (k := 12) hlt (by omega) rfl, _, cB (k := 13) hlt (by omega) rfl, _, cB (k := 14) hlt (by omega) rfl, _, cB (k := 15) hlt (by omega) rfl, _, cB (k := 16) hlt (by omega) rfl, _, cB (k := 17) hlt (by omega) rfl, _, cB (k := 18) hlt (by omega) rfl, _, cB (k := 19) hlt (by omega) rfl, _, cB (k := 20) hlt (by omega) rfl, fun h => absurd h (by simp), fun _ => ⟨((i + 1 : Nat) : Int), ArOk.to (by omega) (by omega) (by omega), lend_rule fun a W rep => again (i + 1) hlt (by omega) a W (rep.le (by (simp only [setn, List.nil_append, List.cons_append, leF, leH_nil, leH_cons, leF_nil, lk, scp, scpL, scpO, resF, resH, resO, resV, resVL, nth, Nat.reduceBEq, Nat.reduceLT, decide_true, decide_false, List.length, List.length_cons, List.length_nil, Nat.reduceAdd, Bool.and_self, Bool.and_true, and_true, true_and, numF] <;> try simp)) (by (simp only [setn, List.nil_append, List.cons_append, leF, leH_nil, leH_cons, leF_nil, lk, scp, scpL, scpO, resF, resH, resO, resV, resVL, nth, Nat.reduceBEq, Nat.reduceLT, decide_true, decide_false, List.length, List.length_cons, List.length_nil, Nat.reduceAdd, Bool.and_self, Bool.and_true, and_true, true_and, numF] <;> try simp)))⟩⟩
  ·exact ret_rule (vs := [.bool true]) r18 rfl rfl fun W hW => hR _ _ ⟨rfl, hW.fresh'⟩
end Go.Proofs.Ytimmobbginjkfaa
