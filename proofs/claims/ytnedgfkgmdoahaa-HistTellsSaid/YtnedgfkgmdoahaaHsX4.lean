/- shuntref12.Pairs, Same, Events: of what is the same. -/
import Derived.Test.YtnedgfkgmdoahaaHsX3
import Derived.Test.YtnedgfkgmdoahaaHsCodeT
set_option linter.unusedSimpArgs false
set_option linter.unusedVariables false
set_option linter.unnecessarySimpa false
namespace Go.Proofs.Ytnedgfkgmdoahaa
open Go Go.Sx Go.Hs
set_option maxRecDepth 100000
theorem pairs60 (A B : Option Addr) (ca cb : Nat) (l : List Pr) (w : World) (hA : RowAt w A (cellsPr l)) (hB : RowAt w B (cellsPr l)) (hl : l.length ≤ 1000000) :
  CallsV Try.prog 60 [.slice A l.length ca, .slice B l.length cb] w fun v w' => v = .bool true ∧ Fresh w w' := by
 refine calls_go (keep := K60) (nt := 26) (svs := [.val (.slice A l.length ca), .val (.slice B l.length cb)]) Try.func60 x60 n60 (by simp) (by simp [IsL, Is]) fun R hR => ?_
 (refine Y_go 600 ?_; dsimp only [X60, numF, Nat.reduceAdd, zq9r, zq9q, Y_k, zq4u, zq8p, zq6p, YK, zq8t, zq9i, normF, zq6n, Nat.reduceBEq, zq6l, zq6k, zq6m, zq86, zq8a, zq87, zq9y, t60n7, T60n7, zq8o, zq55, zq0r, zq50, zq04, zq92, zq9b, zq0i, zq9d, zq9s, zq6h, zq8x, YC, t60n0, T60n0, zq89, zq9x, zq9p, t60n6, T60n6, zq6q, zq9t, zq9v])
 refine ⟨fun hb => absurd hb (by simp), fun _ => ?_⟩
 refine loop_go (α := Nat) (fun i => i ≤ l.length) (fun _ => ⟨w, w.heap.size, [], 26, []⟩)
  (fun i => { F := [(0, .val (.slice A l.length ca)), (1, .val (.slice B l.length cb)), (5, .val (.int .i64 i))], H := [] }) (fun i => l.length - i) (fun _ => rfl) ?start ?round
 case start =>
  intro a W rep
  exact ⟨0, Nat.zero_le _, rep.le (by (simp only [setn, List.nil_append, List.cons_append, leF, leH_nil, leH_cons, leF_nil, lk, scp, scpL, scpO, resF, resH, resO, resV, resVL, nth, Nat.reduceBEq, Nat.reduceLT, decide_true, decide_false, List.length, List.length_cons, List.length_nil, Nat.reduceAdd, Bool.and_self, Bool.and_true, and_true, true_and, numF] <;> try simp)) (by (simp only [setn, List.nil_append, List.cons_append, leF, leH_nil, leH_cons, leF_nil, lk, scp, scpL, scpO, resF, resH, resO, resV, resVL, nth, Nat.reduceBEq, Nat.reduceLT, decide_true, decide_false, List.length, List.length_cons, List.length_nil, Nat.reduceAdd, Bool.and_self, Bool.and_true, and_true, true_and, numF] <;> try simp))⟩
 case round =>
  intro i hi I again
  have hi : i ≤ l.length := hi
  (refine Y_go 600 ?_; dsimp only [zq9y, t60n4, T60n4, zq9r, zq9q, Y_k, zq4u, zq8o, zq6n, Nat.reduceBEq, zq6l, zq6k, YK, zq8t, zq55, zq0r, zq50, zq04, zq92, zq9b, zq0i, zq9e, zq9i, normF, zq6m, zq86, zq87, zq9s, zq6h, zq8x, YC, zq9p, t60n3, T60n3, zq9t, zq58, zq06, zq0w, zq5c, zq1p, zq1c, List.nil_append, List.cons_append, zq1b, zq17, zq5s, zq3o, eqSV, zq96, zq3p, zq89, t60n1, T60n1, zq8p, zq6p, zq8a, zq9x, zqa1, t60n2, T60n2, zq4w, zq6q, zq0e, zqa2, zq9u, popTo, zq6i, YP, t60n5, T60n5, zq6o])
  refine ⟨fun hlt => ?_, fun hge => ?_⟩
  ·have hlt : i < l.length := by have := of_decide_eq_true hlt; omega
   have cl : ∀ {C : Option Addr}, RowAt w C (cellsPr l) → ∀ k v, (prV l[i])[k]? = some v → CellAt ⟨w, w.heap.size, [], 26, []⟩ C ((i : Int).toNat * 2 + k) v := by
    intro C hC k v hk
    rw [Int.toNat_natCast]
    exact hC.cell (by rw [cellsPr_get l hlt (List.getElem?_eq_some_iff.1 hk).1]; exact hk)
   have sA : A.isSome = true := hA.isSome (j := i * 2) (by rw [cellsPr_len]; omega)
   have sB : B.isSome = true := hB.isSome (j := i * 2) (by rw [cellsPr_len]; omega)
   refine ⟨⟨by omega, by omega, sA⟩, _, cl hA 0 _ rfl, _, cl hA 1 _ rfl, ⟨by omega, by omega, sB⟩, _, cl hB 0 _ rfl, _, cl hB 1 _ rfl, ?_⟩
   refine ⟨fun hb => absurd hb (by simp), fun _ => ⟨((i + 1 : Nat) : Int), ArOk.to (by omega) (by omega) (by omega), lend_rule fun a W rep => again (i + 1) hlt (by omega) a W (rep.le (by (simp only [setn, List.nil_append, List.cons_append, leF, leH_nil, leH_cons, leF_nil, lk, scp, scpL, scpO, resF, resH, resO, resV, resVL, nth, Nat.reduceBEq, Nat.reduceLT, decide_true, decide_false, List.length, List.length_cons, List.length_nil, Nat.reduceAdd, Bool.and_self, Bool.and_true, and_true, true_and, numF] <;> try simp)) (by (simp only [setn, List.nil_append, List.cons_append, leF, leH_nil, leH_cons, leF_nil, lk, scp, scpL, scpO, resF, resH, resO, resV, resVL, nth, Nat.reduceBEq, Nat.reduceLT, decide_true, decide_false, List.length, List.length_cons, List.length_nil, Nat.reduceAdd, Bool.and_self, Bool.and_true, and_true, true_and, numF] <;> try simp)))⟩⟩
  ·exact ret_rule (vs := [.bool true]) r60 rfl rfl fun W hW => hR _ _ ⟨rfl, hW.fresh'⟩
theorem events39 (A B : Option Addr) (ca cb : Nat) (l : List Ev) (w : World) (hA : RowAt w A (cellsE l)) (hB : RowAt w B (cellsE l)) (hl : l.length ≤ 1000000) :
  CallsV Try.prog 39 [.slice A l.length ca, .slice B l.length cb] w fun v w' => v = .bool true ∧ Fresh w w' := by
 refine calls_go (keep := K39) (nt := 26) (svs := [.val (.slice A l.length ca), .val (.slice B l.length cb)]) Try.func39 x39 n39 (by simp) (by simp [IsL, Is]) fun R hR => ?_
 (refine Y_go 600 ?_; dsimp only [X39, numF, Nat.reduceAdd, zq9r, zq9q, Y_k, zq4u, zq8p, zq6p, YK, zq8t, zq9i, normF, zq6n, Nat.reduceBEq, zq6l, zq6k, zq6m, zq86, zq8a, zq87, zq9y, t39n7, T39n7, zq8o, zq55, zq0r, zq50, zq04, zq92, zq9b, zq0i, zq9d, zq9s, zq6h, zq8x, YC, t39n0, T39n0, zq89, zq9x, zq9p, t39n6, T39n6, zq6q, zq9t, zq9v])
 refine ⟨fun hb => absurd hb (by simp), fun _ => ?_⟩
 refine loop_go (α := Nat) (fun i => i ≤ l.length) (fun _ => ⟨w, w.heap.size, [], 26, []⟩)
  (fun i => { F := [(0, .val (.slice A l.length ca)), (1, .val (.slice B l.length cb)), (5, .val (.int .i64 i))], H := [] }) (fun i => l.length - i) (fun _ => rfl) ?start ?round
 case start =>
  intro a W rep
  exact ⟨0, Nat.zero_le _, rep.le (by (simp only [setn, List.nil_append, List.cons_append, leF, leH_nil, leH_cons, leF_nil, lk, scp, scpL, scpO, resF, resH, resO, resV, resVL, nth, Nat.reduceBEq, Nat.reduceLT, decide_true, decide_false, List.length, List.length_cons, List.length_nil, Nat.reduceAdd, Bool.and_self, Bool.and_true, and_true, true_and, numF] <;> try simp)) (by (simp only [setn, List.nil_append, List.cons_append, leF, leH_nil, leH_cons, leF_nil, lk, scp, scpL, scpO, resF, resH, resO, resV, resVL, nth, Nat.reduceBEq, Nat.reduceLT, decide_true, decide_false, List.length, List.length_cons, List.length_nil, Nat.reduceAdd, Bool.and_self, Bool.and_true, and_true, true_and, numF] <;> try simp))⟩
 case round =>
  intro i hi I again
  have hi : i ≤ l.length := hi
  (refine Y_go 600 ?_; dsimp only [zq9y, t39n4, T39n4, zq9r, zq9q, Y_k, zq4u, zq8o, zq6n, Nat.reduceBEq, zq6l, zq6k, YK, zq8t, zq55, zq0r, zq50, zq04, zq92, zq9b, zq0i, zq9e, zq9i, normF, zq6m, zq86, zq87, zq9s, zq6h, zq8x, YC, zq9p, t39n3, T39n3, zq9t, zq58, zq06, zq0w, zq5c, zq1p, zq1c, List.nil_append, List.cons_append, zq1b, zq17, zq5s, zq3o, eqSV, zq96, zq3p, zq89, t39n1, T39n1, zq8p, zq6p, zq8a, zq9x, zqa1, t39n2, T39n2, zq4w, zq6q, zq0e, zqa2, zq9u, popTo, zq6i, YP, t39n5, T39n5, zq6o])
  refine ⟨fun hlt => ?_, fun hge => ?_⟩
  ·have hlt : i < l.length := by have := of_decide_eq_true hlt; omega
   have cl : ∀ {C : Option Addr}, RowAt w C (cellsE l) → ∀ k v, (evA l i).cells[k]? = some v → CellAt ⟨w, w.heap.size, [], 26, []⟩ C ((i : Int).toNat * 9 + k) v := fun hC k v hk => evCell (rowE0 hC 26 []) hlt k v hk
   have sA : A.isSome = true := hA.isSome (j := i * 9) (by rw [cellsE_len]; omega)
   have sB : B.isSome = true := hB.isSome (j := i * 9) (by rw [cellsE_len]; omega)
   refine ⟨⟨by omega, by omega, sA⟩, _, cl hA 0 _ rfl, _, cl hA 1 _ rfl, _, cl hA 2 _ rfl, _, cl hA 3 _ rfl, _, cl hA 4 _ rfl, _, cl hA 5 _ rfl, _, cl hA 6 _ rfl, _, cl hA 7 _ rfl, _, cl hA 8 _ rfl, ⟨by omega, by omega, sB⟩, _, cl hB 0 _ rfl, _, cl hB 1 _ rfl, _, cl hB 2 _ rfl, _, cl hB 3 _ rfl, _, cl hB 4 _ rfl, _, cl hB 5 _ rfl, _, cl hB 6 _ rfl, _, cl hB 7 _ rfl, _, cl hB 8 _ rfl, ?_⟩
   refine ⟨fun hb => absurd hb (by simp), fun _ => ⟨((i + 1 : Nat) : Int), ArOk.to (by omega) (by omega) (by omega), lend_rule fun a W rep => again (i + 1) hlt (by omega) a W (rep.le (by (simp only [setn, List.nil_append, List.cons_append, leF, leH_nil, leH_cons, leF_nil, lk, scp, scpL, scpO, resF, resH, resO, resV, resVL, nth, Nat.reduceBEq, Nat.reduceLT, decide_true, decide_false, List.length, List.length_cons, List.length_nil, Nat.reduceAdd, Bool.and_self, Bool.and_true, and_true, true_and, numF] <;> try simp)) (by (simp only [setn, List.nil_append, List.cons_append, leF, leH_nil, leH_cons, leF_nil, lk, scp, scpL, scpO, resF, resH, resO, resV, resVL, nth, Nat.reduceBEq, Nat.reduceLT, decide_true, decide_false, List.length, List.length_cons, List.length_nil, Nat.reduceAdd, Bool.and_self, Bool.and_true, and_true, true_and, numF] <;> try simp)))⟩⟩
  ·exact ret_rule (vs := [.bool true]) r39 rfl rfl fun W hW => hR _ _ ⟨rfl, hW.fresh'⟩
structure AtsAt (w : World) (A : Option Addr) (z : List (At × Hd)) : Prop where
 row : RowAt w A (cellsTs z)
 prs : AttAt w z
theorem AtsAt.keep {w w' : World} {A : Option Addr} {z : List (At × Hd)} (h : AtsAt w A z) (k : Fresh w w') : AtsAt w' A z := ⟨h.row.keep k, h.prs.keep k⟩
theorem same38 (A B : Option Addr) (ca cb : Nat) (y z : List (At × Hd)) (w : World) (hA : AtsAt w A y) (hB : AtsAt w B z) (hyz : y.map (·.1) = z.map (·.1)) (hl : z.length ≤ 1000) (hp : ∀ p ∈ z, p.1.loads.length ≤ 1000 ∧ p.1.stores.length ≤ 1000) :
  CallsV Try.prog 38 [.slice A y.length ca, .slice B z.length cb] w fun v w' => v = .bool true ∧ Fresh w w' := by
 have hlen : y.length = z.length := by have := congrArg List.length hyz; simpa using this
 refine calls_go (keep := K38) (nt := 104) (svs := [.val (.slice A y.length ca), .val (.slice B z.length cb)]) Try.func38 x38 n38 (by simp) (by simp [IsL, Is]) fun R hR => ?_
 rw [hlen]
 (refine Y_go 600 ?_; dsimp only [X38, numF, Nat.reduceAdd, zq9r, zq9q, Y_k, zq4u, zq8p, zq6p, YK, zq8t, zq9i, normF, zq6n, Nat.reduceBEq, zq6l, zq6k, zq6m, zq86, zq8a, zq87, zq9y, t38n9, T38n9, zq8o, zq55, zq0r, zq50, zq04, zq92, zq9b, zq0i, zq9d, zq9s, zq6h, zq8x, YC, t38n0, T38n0, zq89, zq9x, zq9p, t38n8, T38n8, zq6q, zq9t, zq9v])
 refine ⟨fun hb => absurd hb (by simp), fun _ => ?_⟩
 refine loop_go (α := Nat) (fun i => i ≤ z.length) (fun _ => ⟨w, w.heap.size, [], 104, []⟩)
  (fun i => { F := [(0, .val (.slice A z.length ca)), (1, .val (.slice B z.length cb)), (5, .val (.int .i64 i))], H := [] }) (fun i => z.length - i) (fun _ => rfl) ?start ?round
 case start =>
  intro a W rep
  exact ⟨0, Nat.zero_le _, rep.le (by (simp only [setn, List.nil_append, List.cons_append, leF, leH_nil, leH_cons, leF_nil, lk, scp, scpL, scpO, resF, resH, resO, resV, resVL, nth, Nat.reduceBEq, Nat.reduceLT, decide_true, decide_false, List.length, List.length_cons, List.length_nil, Nat.reduceAdd, Bool.and_self, Bool.and_true, and_true, true_and, numF] <;> try simp)) (by (simp only [setn, List.nil_append, List.cons_append, leF, leH_nil, leH_cons, leF_nil, lk, scp, scpL, scpO, resF, resH, resO, resV, resVL, nth, Nat.reduceBEq, Nat.reduceLT, decide_true, decide_false, List.length, List.length_cons, List.length_nil, Nat.reduceAdd, Bool.and_self, Bool.and_true, and_true, true_and, numF] <;> try simp))⟩
 case round =>
  intro i hi I again
  have hi : i ≤ z.length := hi
  (refine Y_go 600 ?_; dsimp only [zq9y, t38n6, T38n6, zq9r, zq9q, Y_k, zq4u, zq8o, zq6n, Nat.reduceBEq, zq6l, zq6k, YK, zq8t, zq55, zq0r, zq50, zq04, zq92, zq9b, zq0i, zq9e, zq9i, normF, zq6m, zq86, zq87, zq9s, zq6h, zq8x, YC, zq9p, t38n5, T38n5, zq9t, zq58, zq06, zq0w, zq5c, zq1p, zq1c, List.nil_append, List.cons_append, zq1g, zq1d, zq1b, zq17, zq5e, List.length_nil, List.map, zq6q, zq6u, zq6p, zq5d, zq7t, List.length_cons, Nat.reduceAdd, zq8l, zq73, zq8m, zq77, zq7g, zq8k, zq0a, zq1x, nth, zq1t, dropL, takeL, zq1r, splice, setn, zq8s, zq89, zq8c, t38n3, T38n3, t38n2, T38n2, zq5a, zq14, Nat.add_zero, zq1o, zq1k, zq19, zq18, zq9d, Y_gk, zq6e, YS, zq6a, zq4v, zq8p, zq6o, zq0b, zq9l, zq6f, t38n1, T38n1, zq8a, zq9x, YR, zq6c, zq0c, zq51, zq8w, zq0j, YG, zq9u, popTo, zq6i, YP, t38n7, T38n7])
  refine ⟨fun hlt => ?_, fun hge => ?_⟩
  ·have hlt : i < z.length := by have := of_decide_eq_true hlt; omega
   have hzi : z[i]? = some z[i] := List.getElem?_eq_getElem hlt
   have hyi : y[i]? = some y[i] := List.getElem?_eq_getElem (by omega)
   generalize hzp : z[i] = pz at hzi
   generalize hyp : y[i] = py at hyi
   have hxx : py.1 = pz.1 := by
    have := congrArg (fun l => l[i]?) hyz
    simp only [List.getElem?_map, hyi, hzi, Option.map_some] at this
    injection this
   have hpz := hp pz (List.mem_of_getElem? hzi)
   have aA := hA.prs py (List.mem_of_getElem? hyi)
   have aB := hB.prs pz (List.mem_of_getElem? hzi)
   have clA : ∀ k v, (cellsT py.1 py.2)[k]? = some v → CellAt ⟨w, w.heap.size, [], 104, []⟩ A ((i : Int).toNat * 11 + k) v := by
    intro k v hk
    rw [Int.toNat_natCast]
    exact hA.row.cell (by rw [cellsTs_get y (by omega) (List.getElem?_eq_some_iff.1 hk).1, hyp]; exact hk)
   have clB : ∀ k v, (cellsT pz.1 pz.2)[k]? = some v → CellAt ⟨w, w.heap.size, [], 104, []⟩ B ((i : Int).toNat * 11 + k) v := by
    intro k v hk
    rw [Int.toNat_natCast]
    exact hB.row.cell (by rw [cellsTs_get z hlt (List.getElem?_eq_some_iff.1 hk).1, hzp]; exact hk)
   have sA : A.isSome = true := hA.row.isSome (j := i * 11) (by rw [cellsTs_len]; omega)
   have sB : B.isSome = true := hB.row.isSome (j := i * 11) (by rw [cellsTs_len]; omega)
   rw [hxx] at clA aA
   obtain ⟨x, hdz⟩ := pz
   generalize py.2 = hdy at clA aA
   simp only at clA clB aA aB hpz
   refine ⟨⟨by omega, by omega, sA⟩, _, clA 0 _ rfl, _, clA 1 _ rfl, _, clA 2 _ rfl, _, clA 3 _ rfl, _, clA 4 _ rfl, _, clA 5 _ rfl, _, clA 6 _ rfl, _, _, _, clA 7 _ rfl, _, _, _, clA 8 _ rfl, _, clA 9 _ rfl, _, clA 10 _ rfl, fun g => ⟨⟨by omega, by omega, sB⟩, _, clB 0 _ rfl, _, clB 1 _ rfl, _, clB 2 _ rfl, _, clB 3 _ rfl, _, clB 4 _ rfl, _, clB 5 _ rfl, _, clB 6 _ rfl, _, _, _, clB 7 _ rfl, _, _, _, clB 8 _ rfl, _, clB 9 _ rfl, _, clB 10 _ rfl, fun g' => ?_⟩⟩
   repeat' first
    | refine ⟨fun hb => absurd hb (by simp), fun _ => ?_⟩
    | fail
   refine call_val (R := fun v => v = .bool true) (vs := [.slice hdy.lA x.loads.length hdy.lc, .slice hdz.lA x.loads.length hdz.lc]) rfl (fun W hW => pairs60 _ _ _ _ x.loads W (aA.1.keep hW.fresh') (aB.1.keep hW.fresh') (by omega)) fun v hv => ⟨.bt, by rw [hv]; simp [Is], ?_⟩
   (refine Y_go 600 ?_; dsimp only [zq8t, Y_gk, zq6n, Nat.reduceBEq, zq6l, zq6k, zq6c, YR, zq53, zq8o, zq0m, YK, Y_k, zq4v, zq8p, zq6o, zq0c, zq4u, zq5a, zq14, Nat.reduceAdd, zq5c, zq1o, nth, zq1k, List.length_cons, List.length_nil, dropL, takeL, zq19, zq18, zq9l, YG])
   refine call_val (R := fun v => v = .bool true) (vs := [.slice hdy.sA x.stores.length hdy.sc, .slice hdz.sA x.stores.length hdz.sc]) rfl (fun W hW => pairs60 _ _ _ _ x.stores W (aA.2.keep hW.fresh') (aB.2.keep hW.fresh') (by omega)) fun v hv => ⟨.bt, by rw [hv]; simp [Is], ?_⟩
   (refine Y_go 600 ?_; dsimp only [zq8t, Y_gk, zq6n, Nat.reduceBEq, zq6l, zq6k, zq6c, YR, zq53, zq8o, zq0m, YK, Y_k, zq4v, zq8p, zq6o, zq0c, zq9i, normF, zq6m, zq8a, zq89, zq86, zq8c, zq87, zq9s, zq6g, YC, zq9p, zqa1, zq9y, t38n4, T38n4, zq9q, zq4u, zq4w, zq6q, zq04, zq92, zq9b, zq0e, zqa2])
   exact ⟨((i + 1 : Nat) : Int), ArOk.to (by omega) (by omega) (by omega), lend_rule fun a W rep => again (i + 1) hlt (by omega) a W (rep.le (by (simp only [setn, List.nil_append, List.cons_append, leF, leH_nil, leH_cons, leF_nil, lk, scp, scpL, scpO, resF, resH, resO, resV, resVL, nth, Nat.reduceBEq, Nat.reduceLT, decide_true, decide_false, List.length, List.length_cons, List.length_nil, Nat.reduceAdd, Bool.and_self, Bool.and_true, and_true, true_and, numF] <;> try simp)) (by (simp only [setn, List.nil_append, List.cons_append, leF, leH_nil, leH_cons, leF_nil, lk, scp, scpL, scpO, resF, resH, resO, resV, resVL, nth, Nat.reduceBEq, Nat.reduceLT, decide_true, decide_false, List.length, List.length_cons, List.length_nil, Nat.reduceAdd, Bool.and_self, Bool.and_true, and_true, true_and, numF] <;> try simp)))⟩
  ·exact ret_rule (vs := [.bool true]) r38 rfl rfl fun W hW => hR _ _ ⟨rfl, hW.fresh'⟩
end Go.Proofs.Ytnedgfkgmdoahaa
