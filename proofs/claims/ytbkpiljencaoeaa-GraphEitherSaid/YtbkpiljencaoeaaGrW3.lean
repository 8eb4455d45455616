/- GraphEither: the law's function. -/
import Derived.Test.YtbkpiljencaoeaaGrAl
import Derived.Test.YtbkpiljencaoeaaGrPlain
import Derived.Test.YtbkpiljencaoeaaGrCode
set_option linter.unusedSimpArgs false
set_option linter.unusedVariables false
set_option linter.unnecessarySimpa false
namespace Go.Proofs.Ytbkpiljencaoeaa
open Go Go.Sx Go.Gr
set_option maxRecDepth 100000
theorem edE_cell {E : Env} {A : Option Addr} {l : List Ed} (h : RowE E A (cellsD l)) {k : Nat} {e : Ed} (hk : l[k]? = some e) : CellAt E A ((k : Int).toNat * 2 + 0) (.int .i64 e.1) ∧ CellAt E A ((k : Int).toNat * 2 + 1) (.int .i64 e.2) := by
 obtain ⟨hlt, rfl⟩ := List.getElem?_eq_some_iff.1 hk
 rw [Int.toNat_natCast]
 exact ⟨h.cell (by rw [cellsD_get l hlt (by omega)]; rfl), h.cell (by rw [cellsD_get l hlt (by omega)]; rfl)⟩
def atP (u : List Int) (p j : Nat) : Int := if (j : Int) ∈ u.take p then ((u.idxOf (j : Int) : Nat) : Int) + 1 else 0
theorem law3t {R : Value → World → Prop} (w : World) (E : Env) (hnt : E.nt = 191) (hmk : E.marks = []) (A : Option Addr) (c m : Nat) (l : List Ed) (hA : RowE E A (cellsD l)) (hok : okG m l) (hl3 : l.length ≤ 300) (O : Option Addr) (ol oc : Nat) (e : Int) (C : Option Addr) (cc : Nat) (hC : RowE E C (isV (cycL l m)))
  (he : e = 0 → (ordL l m).length = m ∧ ol = m ∧ RowE E O (isV (ordL l m)))
  (yes : ∀ s, denAll s.H s.F [4] = some [.bool true] → RetG (cxOf Try.prog Try.f3 K3 T3 R) E s) :
  G (cxOf Try.prog Try.f3 K3 T3 R) E [.code (.loop (.ref 11)), .blk 0, .code (.ref 28)] { F := [(0, .val (.int .i64 m)), (1, .val (.slice A l.length c)), (5, .bt), (6, .val (.slice O ol oc)), (7, .val (.int .i64 e)), (8, .val (.slice C (cycL l m).length cc)), (10, .val (.int .i64 0))], H := [] } := by
 have hcy := cycL_ok hok
 generalize cycL l m = cy at *
 have hm5 : m ≤ 500 := by have := hok.2.1; omega
 have hcl : cy.length ≤ m := by
  rcases hcy with ⟨h, _⟩ | ⟨h, _⟩
  ·rw [h]; exact Nat.zero_le _
  ·exact nodup_le m cy h.nd h.rg
 have sA : 0 < l.length → A.isSome = true := fun h => hA.isSome (j := 0) (by rw [cellsD_len]; omega)
 have sC : 0 < cy.length → C.isSome = true := fun h => hC.isSome (j := 0) (by rw [isV_len]; exact h)
 refine loop_go (α := Nat) (fun i => i ≤ cy.length) (fun _ => E)
  (fun i => { F := [(0, .val (.int .i64 m)), (1, .val (.slice A l.length c)), (5, .bt), (6, .val (.slice O ol oc)), (7, .val (.int .i64 e)), (8, .val (.slice C cy.length cc)), (10, .val (.int .i64 i))], H := [] }) (fun i => cy.length - i) (fun _ => rfl) ?start ?round
 case start =>
  intro a W rep
  exact ⟨0, Nat.zero_le _, rep.le (by (simp only [setn, List.nil_append, List.cons_append, leF, leH_nil, leH_cons, leF_nil, lk, scp, scpL, scpO, resF, resH, resO, resV, resVL, nth, Nat.reduceBEq, Nat.reduceLT, decide_true, decide_false, List.length, List.length_cons, List.length_nil, Nat.reduceAdd, Bool.and_self, Bool.and_true, and_true, true_and, numF] <;> try simp)) (by (simp only [setn, List.nil_append, List.cons_append, leF, leH_nil, leH_cons, leF_nil, lk, scp, scpL, scpO, resF, resH, resO, resV, resVL, nth, Nat.reduceBEq, Nat.reduceLT, decide_true, decide_false, List.length, List.length_cons, List.length_nil, Nat.reduceAdd, Bool.and_self, Bool.and_true, and_true, true_and, numF] <;> try simp))⟩
 case round =>
  rintro i hi I again
  (refine Y_go 600 ?_; dsimp only [zq9y, t3n11, T3n11, zq9r, zq9q, Y_k, zq4u, zq8o, zq6n, Nat.reduceBEq, zq6l, zq6k, YK, zq8t, zq55, zq0r, zq50, zq04, zq92, zq9b, zq0i, zq9e, zq9i, normF, zq6m, zq86, zq87, zq89, zq9s, zq6h, zq8x, YC, zq9p, t3n10, T3n10, zq9t, zq8p, zq6p, zq8a, t3n8, T3n8, zq6q, zq9v, zq9u, popTo, zq6i, YP, t3n28, T3n28, zq9d, t3n12, T3n12, zq9x, t3n27, T3n27, zq67, zq06, zq4t, List.length_nil, List.nil_append, zq8f, t3n26, T3n26, t3n13, T3n13, t3n25, T3n25])
  refine ⟨fun hlt => ?_, fun hge => ?_⟩
  ·have hlt : i < cy.length := by have := of_decide_eq_true hlt; omega
   have hx : cy[i]? = some cy[i] := List.getElem?_eq_getElem hlt
   have hyl : (i + 1) % cy.length < cy.length := Nat.mod_lt _ (by omega)
   have hy : cy[(i + 1) % cy.length]? = some cy[(i + 1) % cy.length] := List.getElem?_eq_getElem hyl
   have h0 : cy[0]? = some cy[0] := List.getElem?_eq_getElem (by omega)
   generalize cy[i] = x at hx
   generalize cy[(i + 1) % cy.length] = y at hy
   generalize cy[0] = x0 at h0
   obtain ⟨hxy, hle, hne⟩ : (x, y) ∈ l ∧ x0 ≤ x ∧ (0 < i → x ≠ x0) := by
    rcases hcy with ⟨h, _⟩ | ⟨h, h9⟩
    ·rw [h] at hlt; simp at hlt
    ·exact ⟨h.edge i x y hlt hx hy, (h9 i x hx x0 h0).1, (h9 i x hx x0 h0).2⟩
   have cx : CellAt E C ((i : Int).toNat * 1) (.int .i64 x) := by rw [Int.toNat_natCast, Nat.mul_one]; exact hC.cell (isV_get _ _ _ hx)
   have cy' : CellAt E C ((((i + 1) % cy.length : Nat) : Int).toNat * 1) (.int .i64 y) := by rw [Int.toNat_natCast, Nat.mul_one]; exact hC.cell (isV_get _ _ _ hy)
   have c0 : CellAt E C 0 (.int .i64 x0) := hC.cell (isV_get _ _ _ h0)
   refine loop_go (α := Nat) (fun k => k ≤ l.length) (fun _ => E)
    (fun k => { F := [(0, .val (.int .i64 m)), (1, .val (.slice A l.length c)), (5, .bt), (6, .val (.slice O ol oc)), (7, .val (.int .i64 e)), (8, .val (.slice C cy.length cc)), (10, .val (.int .i64 i)), (11, .val (.bool ((l.take k).any fun d => d.1 == x && d.2 == y))), (12, .val (.int .i64 k))], H := [] }) (fun k => l.length - k) (fun _ => rfl) ?start2 ?round2
   case start2 =>
    intro a W rep
    exact ⟨0, Nat.zero_le _, (rep_swap 11 (x := .bf) (y := .val (.bool false)) rep rfl (fun v h => by simpa [Is] using h)).le (by (simp only [setn, List.nil_append, List.cons_append, leF, leH_nil, leH_cons, leF_nil, lk, scp, scpL, scpO, resF, resH, resO, resV, resVL, nth, Nat.reduceBEq, Nat.reduceLT, decide_true, decide_false, List.length, List.length_cons, List.length_nil, Nat.reduceAdd, Bool.and_self, Bool.and_true, and_true, true_and, numF] <;> try simp)) (by (simp only [setn, List.nil_append, List.cons_append, leF, leH_nil, leH_cons, leF_nil, lk, scp, scpL, scpO, resF, resH, resO, resV, resVL, nth, Nat.reduceBEq, Nat.reduceLT, decide_true, decide_false, List.length, List.length_cons, List.length_nil, Nat.reduceAdd, Bool.and_self, Bool.and_true, and_true, true_and, numF] <;> try simp))⟩
   case round2 =>
    rintro k hk I2 again2
    (refine Y_go 600 ?_; dsimp only [zq9y, t3n5, T3n5, zq9r, zq9q, Y_k, zq4u, zq8o, zq6n, Nat.reduceBEq, zq6l, zq6k, YK, zq8t, zq55, zq0r, zq50, zq04, zq92, zq9b, zq0i, zq9e, zq9i, normF, zq6m, zq86, zq87, zq89, zq9s, zq6h, zq8x, YC, zq9p, t3n4, T3n4, zq9t, Y_gk, zq6e, YS, zq6a, zq02, zq4v, zq8p, zq6o, zq0b, zqa1, t3n3, T3n3, zq4w, zq6q, zq0e, zqa2, YR, zq6c, zq58, zq06, zq0w, zq59, zq12, Int.reduceToNat, Nat.reduceMul, Nat.add_zero, zq5c, zq1p, zq1c, List.nil_append, zq1b, zq18, zq9c, zq6d, zq69, zq4x, zq0f, zq6p, zq0c, zq6b, zq8a, zq9u, popTo, zq6i, YP, t3n7, T3n7, zq53, zq0o, zq6f, t3n6, T3n6, zq9x, Nat.reduceAdd, zq9g, t3n9, T3n9, zq6g])
    refine ⟨fun hlt2 => ?_, fun hge2 => ?_⟩
    ·have hlt2 : k < l.length := by have := of_decide_eq_true hlt2; omega
     have hg := List.getElem?_eq_getElem hlt2
     have htk : l.take (k + 1) = l.take k ++ [l[k]] := by rw [List.take_add_one, hg]; rfl
     have hnx : ((l.take (k + 1)).any fun d => d.1 == x && d.2 == y) = (((l.take k).any fun d => d.1 == x && d.2 == y) || (l[k].1 == x && l[k].2 == y)) := by rw [htk, List.any_append]; simp
     obtain ⟨ca, cb⟩ := edE_cell hA hg
     generalize l[k] = d at hnx ca cb
     have ha : ArOk .add .i64 (k : Int) 1 ((k + 1 : Nat) : Int) := ArOk.to (by omega) (by omega) (by omega)
     have bA : 0 ≤ (k : Int) ∧ (k : Int) < (l.length : Int) ∧ A.isSome = true := ⟨by omega, by omega, sA (by omega)⟩
     have bC : 0 ≤ (i : Int) ∧ (i : Int) < (cy.length : Int) ∧ C.isSome = true := ⟨by omega, by omega, sC (by omega)⟩
     have hrem : DivOk .rem .i64 ((i + 1 : Nat) : Int) (cy.length : Int) (((i + 1) % cy.length : Nat) : Int) := by
      have := DivOk.rem_nn (k := .i64) (a := ((i + 1 : Nat) : Int)) (b := (cy.length : Int)) (by omega) (by omega)
      exact this
     refine ⟨fun hb => ⟨_, ha, lend_rule fun a W rep => again2 (k + 1) hlt2 (by omega) a W ?_⟩, fun hb => ⟨bA, ⟨by omega, by omega, sA (by omega)⟩, d.1, ca, bC, x, cx, fun h1 => ⟨bA, ⟨by omega, by omega, sA (by omega)⟩, d.2, cb, ((i + 1 : Nat) : Int), ArOk.to (by omega) (by omega) (by omega), _, hrem, ⟨by omega, by omega, sC (by omega)⟩, y, cy', _, ha, lend_rule fun a W rep => again2 (k + 1) hlt2 (by omega) a W ?_⟩, fun h1 => ⟨_, ha, lend_rule fun a W rep => again2 (k + 1) hlt2 (by omega) a W ?_⟩⟩⟩
     ·rw [hnx, hb, Bool.true_or]
      exact (rep_swap 11 (x := .bt) (y := .val (.bool true)) rep rfl (fun v h => by simpa [Is] using h)).le (by (simp only [setn, List.nil_append, List.cons_append, leF, leH_nil, leH_cons, leF_nil, lk, scp, scpL, scpO, resF, resH, resO, resV, resVL, nth, Nat.reduceBEq, Nat.reduceLT, decide_true, decide_false, List.length, List.length_cons, List.length_nil, Nat.reduceAdd, Bool.and_self, Bool.and_true, and_true, true_and, numF] <;> try simp)) (by (simp only [setn, List.nil_append, List.cons_append, leF, leH_nil, leH_cons, leF_nil, lk, scp, scpL, scpO, resF, resH, resO, resV, resVL, nth, Nat.reduceBEq, Nat.reduceLT, decide_true, decide_false, List.length, List.length_cons, List.length_nil, Nat.reduceAdd, Bool.and_self, Bool.and_true, and_true, true_and, numF] <;> try simp))
     ·rw [hnx, hb, h1, Bool.false_or, Bool.true_and]
      exact rep.le (by (simp only [setn, List.nil_append, List.cons_append, leF, leH_nil, leH_cons, leF_nil, lk, scp, scpL, scpO, resF, resH, resO, resV, resVL, nth, Nat.reduceBEq, Nat.reduceLT, decide_true, decide_false, List.length, List.length_cons, List.length_nil, Nat.reduceAdd, Bool.and_self, Bool.and_true, and_true, true_and, numF] <;> try simp)) (by (simp only [setn, List.nil_append, List.cons_append, leF, leH_nil, leH_cons, leF_nil, lk, scp, scpL, scpO, resF, resH, resO, resV, resVL, nth, Nat.reduceBEq, Nat.reduceLT, decide_true, decide_false, List.length, List.length_cons, List.length_nil, Nat.reduceAdd, Bool.and_self, Bool.and_true, and_true, true_and, numF] <;> try simp))
     ·rw [hnx, hb, h1, Bool.false_or, Bool.false_and]
      exact (rep_swap 11 (x := .bf) (y := .val (.bool false)) rep rfl (fun v h => by simpa [Is] using h)).le (by (simp only [setn, List.nil_append, List.cons_append, leF, leH_nil, leH_cons, leF_nil, lk, scp, scpL, scpO, resF, resH, resO, resV, resVL, nth, Nat.reduceBEq, Nat.reduceLT, decide_true, decide_false, List.length, List.length_cons, List.length_nil, Nat.reduceAdd, Bool.and_self, Bool.and_true, and_true, true_and, numF] <;> try simp)) (by (simp only [setn, List.nil_append, List.cons_append, leF, leH_nil, leH_cons, leF_nil, lk, scp, scpL, scpO, resF, resH, resO, resV, resVL, nth, Nat.reduceBEq, Nat.reduceLT, decide_true, decide_false, List.length, List.length_cons, List.length_nil, Nat.reduceAdd, Bool.and_self, Bool.and_true, and_true, true_and, numF] <;> try simp))
    ·have hke : k = l.length := by have := of_decide_eq_false hge2; omega
     subst hke
     rw [List.take_of_length_le (Nat.le_refl _)]
     have hf : (l.any fun d => d.1 == x && d.2 == y) = true := by
      rw [List.any_eq_true]; exact ⟨_, hxy, by simp⟩
     rw [hf]
     have bC : 0 ≤ (i : Int) ∧ (i : Int) < (cy.length : Int) ∧ C.isSome = true := ⟨by omega, by omega, sC (by omega)⟩
     have b0 : (0 : Int) ≤ 0 ∧ (0 : Int) < (cy.length : Int) ∧ C.isSome = true := ⟨by omega, by omega, sC (by omega)⟩
     have ha : ArOk .add .i64 (i : Int) 1 ((i + 1 : Nat) : Int) := ArOk.to (by omega) (by omega) (by omega)
     have nxt : ∀ F, leF 0 F [(0, .val (.int .i64 m)), (1, .val (.slice A l.length c)), (5, .bt), (6, .val (.slice O ol oc)), (7, .val (.int .i64 e)), (8, .val (.slice C cy.length cc)), (10, .val (.int .i64 ((i + 1 : Nat) : Int)))] → G (cxOf Try.prog Try.f3 K3 T3 R) E [.lend I, .blk 0, .code (.ref 28)] { F := F, H := [] } := fun F hF =>
      lend_rule fun a W rep => again (i + 1) hlt (by omega) a W (rep.few 0 hF)
     refine ⟨fun h => absurd h (by decide), fun _ => ⟨bC, x, cx, b0, x0, c0, fun h => absurd (of_decide_eq_true h) (by omega), fun _ => ⟨fun h => ⟨bC, x, cx, b0, x0, c0, fun h2 => absurd (by simpa using h2) (hne (by have := of_decide_eq_true h; omega)), fun _ => ⟨_, ha, nxt _ (by (simp only [setn, List.nil_append, List.cons_append, leF, leH_nil, leH_cons, leF_nil, lk, scp, scpL, scpO, resF, resH, resO, resV, resVL, nth, Nat.reduceBEq, Nat.reduceLT, decide_true, decide_false, List.length, List.length_cons, List.length_nil, Nat.reduceAdd, Bool.and_self, Bool.and_true, and_true, true_and, numF] <;> try simp))⟩⟩, fun _ => ⟨_, ha, nxt _ (by (simp only [setn, List.nil_append, List.cons_append, leF, leH_nil, leH_cons, leF_nil, lk, scp, scpL, scpO, resF, resH, resO, resV, resVL, nth, Nat.reduceBEq, Nat.reduceLT, decide_true, decide_false, List.length, List.length_cons, List.length_nil, Nat.reduceAdd, Bool.and_self, Bool.and_true, and_true, true_and, numF] <;> try simp))⟩⟩⟩⟩
  ·have hie : i = cy.length := by have := of_decide_eq_false hge; omega
   refine ⟨fun _ => yes _ rfl, fun h => ?_⟩
   have h : e = 0 := by simpa using h
   obtain ⟨ho, rfl, hO⟩ := he h
   refine ⟨⟨by omega, by omega, by omega, by omega⟩, fun g => ⟨fun h => absurd h (by simp), fun _ => ?_⟩⟩
   rw [Int.toNat_natCast, cV_zero]
   clear again
   obtain ⟨hu, hp, _⟩ := ordL_spec l ol
   generalize ordL l ol = u at *
   have sO : 0 < ol → O.isSome = true := fun h => hO.isSome (j := 0) (by rw [isV_len, ho]; exact h)
   refine loop_go (α := Nat) (fun p => p ≤ ol) (fun _ => E)
    (fun p => { F := [(0, .val (.int .i64 ol)), (1, .val (.slice A l.length c)), (5, .bt), (6, .val (.slice O ol oc)), (13, .own 0 0), (14, .val (.int .i64 p))], H := [.own 3 0 1 (some ⟨g, 0, none⟩) ol ol (cV ol (atP u p))] }) (fun p => ol - p) (fun _ => rfl) ?start3 ?round3
   case start3 =>
    intro a W rep
    refine ⟨0, Nat.zero_le _, ?_⟩
    have e0 : cV ol (atP u 0) = cV ol fun _ => 0 := cV_congr fun j _ => by unfold atP; rw [List.take_zero, if_neg (by simp)]
    simp only [e0]
    exact rep.le (by (simp only [setn, List.nil_append, List.cons_append, leF, leH_nil, leH_cons, leF_nil, lk, scp, scpL, scpO, resF, resH, resO, resV, resVL, nth, Nat.reduceBEq, Nat.reduceLT, decide_true, decide_false, List.length, List.length_cons, List.length_nil, Nat.reduceAdd, Bool.and_self, Bool.and_true, and_true, true_and, numF] <;> try simp)) (by (simp only [setn, List.nil_append, List.cons_append, leF, leH_nil, leH_cons, leF_nil, lk, scp, scpL, scpO, resF, resH, resO, resV, resVL, nth, Nat.reduceBEq, Nat.reduceLT, decide_true, decide_false, List.length, List.length_cons, List.length_nil, Nat.reduceAdd, Bool.and_self, Bool.and_true, and_true, true_and, numF] <;> try simp))
   case round3 =>
    rintro p hpl I3 again3
    (refine Y_go 600 ?_; dsimp only [zq9y, t3n18, T3n18, zq9r, zq9q, Y_k, zq4u, zq8o, zq6n, Nat.reduceBEq, zq6l, zq6k, YK, zq8t, zq50, zq04, zq92, zq9b, zq0i, zq9e, zq9i, normF, zq6m, zq86, zq87, zq8f, zq89, zq9s, zq6h, zq8x, YC, zq9p, t3n17, T3n17, zq9t, zq58, zq06, zq0w, zq5c, zq1p, zq1c, List.nil_append, zq1b, zq18, zq8p, zq6q, Y_gk, zq6e, YS, zq6a, zq4v, zq6o, zq0b, zq6f, t3n14, T3n14, zq6p, zq8a, zq9x, YR, zq6c, zq9h, zq0c, zq0y, nth, zq09, zq08, zq0v, zq1q, zq1n, zq9g, t3n15, T3n15, zq4w, zq0e, zq5d, zq7u, zq73, zq0a, zq1y, zq1w, denL, den, zq1v, splice, setn, zq8s, zqa1, t3n16, T3n16, zqa2, zq9u, popTo, zq6i, YP, t3n24, T3n24, zq9v])
    refine ⟨fun hlt => ?_, fun hge => ?_⟩
    ·have hlt : p < ol := by have := of_decide_eq_true hlt; omega
     have hg : u[p]? = some u[p] := List.getElem?_eq_getElem (by omega)
     have hr := hu.rg _ (List.getElem_mem (show p < u.length by omega))
     generalize u[p] = x at hg hr
     obtain ⟨x, rfl⟩ : ∃ t : Nat, (t : Int) = x := ⟨x.toNat, by omega⟩
     have hxo : x < ol := by omega
     have hnt := take_not hu.nd hg
     have hix : u.idxOf (x : Int) = p := idxOf_at hg hnt
     have cx : CellAt E O ((p : Int).toNat * 1) (.int .i64 (x : Int)) := by rw [Int.toNat_natCast, Nat.mul_one]; exact hO.cell (isV_get _ _ _ hg)
     have bO : 0 ≤ (p : Int) ∧ (p : Int) < (ol : Int) ∧ O.isSome = true := ⟨by omega, by omega, sO (by omega)⟩
     refine ⟨bO, _, cx, fun h => absurd (of_decide_eq_true h) (by omega), fun _ => ⟨bO, _, cx, fun h => absurd (of_decide_eq_true h) (by omega), fun _ => ⟨bO, _, cx, ⟨by omega, by omega⟩, 0, by rw [Int.toNat_natCast, Nat.mul_one, cV_get _ hxo]; unfold atP; rw [if_neg hnt], fun h => absurd (of_decide_eq_true h) (by omega), fun _ => ?_⟩⟩⟩
     refine ⟨bO, _, cx, ((p + 1 : Nat) : Int), ArOk.to (by omega) (by omega) (by omega), ⟨by omega, by omega⟩, by rw [cV_len, Int.toNat_natCast]; omega, ((p + 1 : Nat) : Int), ArOk.to (by omega) (by omega) (by omega), lend_rule fun a W rep => again3 (p + 1) hlt (by omega) a W ?_⟩
     rw [Int.toNat_natCast, Nat.mul_one, cV_set _ _ hxo] at rep
     have e1 : (cV ol fun j => if j = x then ((p + 1 : Nat) : Int) else atP u p j) = cV ol (atP u (p + 1)) := cV_congr fun j _ => by
      by_cases hj : j = x
      ·subst hj
       rw [if_pos rfl]
       unfold atP
       rw [if_pos ((take_mem hu.nd hg _).2 (.inr rfl)), hix]; omega
      ·have hne : (j : Int) ≠ x := by omega
       rw [if_neg hj]
       unfold atP
       simp only [take_mem hu.nd hg, hne, or_false]
     rw [e1] at rep
     exact rep.res.le (by (simp only [setn, List.nil_append, List.cons_append, leF, leH_nil, leH_cons, leF_nil, lk, scp, scpL, scpO, resF, resH, resO, resV, resVL, nth, Nat.reduceBEq, Nat.reduceLT, decide_true, decide_false, List.length, List.length_cons, List.length_nil, Nat.reduceAdd, Bool.and_self, Bool.and_true, and_true, true_and, numF] <;> try simp)) (by (simp only [setn, List.nil_append, List.cons_append, leF, leH_nil, leH_cons, leF_nil, lk, scp, scpL, scpO, resF, resH, resO, resV, resVL, nth, Nat.reduceBEq, Nat.reduceLT, decide_true, decide_false, List.length, List.length_cons, List.length_nil, Nat.reduceAdd, Bool.and_self, Bool.and_true, and_true, true_and, numF] <;> try simp))
    ·have hpe : p = ol := by have := of_decide_eq_false hge; omega
     subst hpe
     refine loop_go (α := Nat) (fun k => k ≤ l.length) (fun _ => E)
      (fun k => { F := [(1, .val (.slice A l.length c)), (5, .bt), (13, .own 0 0), (15, .val (.int .i64 k))], H := [.own 3 0 1 (some ⟨g, 0, none⟩) p p (cV p (atP u p))] }) (fun k => l.length - k) (fun _ => rfl) ?start4 ?round4
     case start4 =>
      intro a W rep
      exact ⟨0, Nat.zero_le _, rep.le (by (simp only [setn, List.nil_append, List.cons_append, leF, leH_nil, leH_cons, leF_nil, lk, scp, scpL, scpO, resF, resH, resO, resV, resVL, nth, Nat.reduceBEq, Nat.reduceLT, decide_true, decide_false, List.length, List.length_cons, List.length_nil, Nat.reduceAdd, Bool.and_self, Bool.and_true, and_true, true_and, numF] <;> try simp)) (by (simp only [setn, List.nil_append, List.cons_append, leF, leH_nil, leH_cons, leF_nil, lk, scp, scpL, scpO, resF, resH, resO, resV, resVL, nth, Nat.reduceBEq, Nat.reduceLT, decide_true, decide_false, List.length, List.length_cons, List.length_nil, Nat.reduceAdd, Bool.and_self, Bool.and_true, and_true, true_and, numF] <;> try simp))⟩
     case round4 =>
      rintro k hk I4 again4
      (refine Y_go 600 ?_; dsimp only [zq9y, t3n22, T3n22, zq9r, zq9q, Y_k, zq4u, zq8o, zq6n, Nat.reduceBEq, zq6l, zq6k, YK, zq8t, zq55, zq0r, zq50, zq04, zq92, zq9b, zq0i, zq9e, zq9i, normF, zq6m, zq86, zq87, zq8f, zq89, zq9s, zq6h, zq8x, YC, zq9p, t3n21, T3n21, zq9t, zq58, zq06, zq0w, zq59, zq8p, zq6q, zq12, Int.reduceToNat, Nat.reduceMul, Nat.add_zero, zq5c, zq1p, zq1c, List.nil_append, zq1b, zq18, zq0y, nth, zq09, zq08, zq0v, zq1q, zq1n, zq9h, t3n19, T3n19, zq6p, zq8a, zq9x, zqa1, t3n20, T3n20, zq4w, zq0e, zqa2, zq9u, popTo, zq6i, YP, t3n23, T3n23])
      refine ⟨fun hlt => ?_, fun hge => ?_⟩
      ·have hlt : k < l.length := by have := of_decide_eq_true hlt; omega
       have hg := List.getElem?_eq_getElem hlt
       have hd := hok.2.2.2 _ (List.getElem_mem hlt)
       have hml := List.getElem_mem hlt
       obtain ⟨ca, cb⟩ := edE_cell hA hg
       generalize l[k] = d at hd ca cb hml
       obtain ⟨d1, d2⟩ := d
       simp only at hd ca cb
       obtain ⟨d1, rfl⟩ : ∃ t : Nat, (t : Int) = d1 := ⟨d1.toNat, by omega⟩
       obtain ⟨d2, rfl⟩ : ∃ t : Nat, (t : Int) = d2 := ⟨d2.toNat, by omega⟩
       have hall : ∀ j : Nat, j < p → atP u p j = ((u.idxOf (j : Int) : Nat) : Int) + 1 := fun j hj => by
        unfold atP
        rw [List.take_of_length_le (by omega), if_pos (full_mem hu.nd hu.rg ho (by omega) (by omega))]
       have h2m := full_mem (i := (d2 : Int)) hu.nd hu.rg ho (by omega) (by omega)
       have hlt2 := (pinv_lt hp hu.nd h2m hml).2
       have bA : 0 ≤ (k : Int) ∧ (k : Int) < (l.length : Int) ∧ A.isSome = true := ⟨by omega, by omega, sA (by omega)⟩
       have bA2 : (0 : Int) ≤ 0 ∧ (0 : Int) < ((2 : Nat) : Int) ∧ A.isSome = true := ⟨by omega, by omega, sA (by omega)⟩
       have bA3 : (0 : Int) ≤ 1 ∧ (1 : Int) < ((2 : Nat) : Int) ∧ A.isSome = true := ⟨by omega, by omega, sA (by omega)⟩
       have r1 : (cV p (atP u p))[(d1 : Int).toNat * 1]? = some (.int .i64 (((u.idxOf (d1 : Int) : Nat) : Int) + 1)) := by rw [Int.toNat_natCast, Nat.mul_one, cV_get _ (by omega), hall _ (by omega)]
       have r2 : (cV p (atP u p))[(d2 : Int).toNat * 1]? = some (.int .i64 (((u.idxOf (d2 : Int) : Nat) : Int) + 1)) := by rw [Int.toNat_natCast, Nat.mul_one, cV_get _ (by omega), hall _ (by omega)]
       refine ⟨bA, bA2, _, ca, ⟨by omega, by omega⟩, _, r1, bA, bA3, _, cb, ⟨by omega, by omega⟩, _, r2, fun h => absurd (of_decide_eq_true h) (by omega), fun _ => ⟨((k + 1 : Nat) : Int), ArOk.to (by omega) (by omega) (by omega), lend_rule fun a W rep => again4 (k + 1) hlt (by omega) a W (rep.le (by (simp only [setn, List.nil_append, List.cons_append, leF, leH_nil, leH_cons, leF_nil, lk, scp, scpL, scpO, resF, resH, resO, resV, resVL, nth, Nat.reduceBEq, Nat.reduceLT, decide_true, decide_false, List.length, List.length_cons, List.length_nil, Nat.reduceAdd, Bool.and_self, Bool.and_true, and_true, true_and, numF] <;> try simp)) (by (simp only [setn, List.nil_append, List.cons_append, leF, leH_nil, leH_cons, leF_nil, lk, scp, scpL, scpO, resF, resH, resO, resV, resVL, nth, Nat.reduceBEq, Nat.reduceLT, decide_true, decide_false, List.length, List.length_cons, List.length_nil, Nat.reduceAdd, Bool.and_self, Bool.and_true, and_true, true_and, numF] <;> try simp)))⟩⟩
      ·exact yes _ rfl
theorem law3 (A : Option Addr) (c : Nat) (n : Int) (l : List Ed) (w : World) (hA : RowAt w A (cellsD l)) :
  CallsV Try.prog 3 [.int .i64 n, .slice A l.length c] w fun v w' => v = .bool true ∧ Fresh w w' := by
 refine calls_go (keep := K3) (nt := 191) (svs := [.val (.int .i64 n), .val (.slice A l.length c)]) Try.func3 x3 n3 (by simp) (by simp [IsL, Is]) fun R hR => ?_
 (refine Y_go 600 ?_; dsimp only [X3, numF, Nat.reduceAdd, zq9r, zq9q, Y_k, zq4u, zq8p, zq6p, YK, zq8t, zq9i, normF, zq6n, Nat.reduceBEq, zq6l, zq6k, zq6m, zq86, zq8a, zq87, zq9y, t3n35, T3n35, zq9j])
 refine call_val (vs := []) rfl (R := fun v => v = .bool true) (fun W hW => alive9 W) fun v hv => ⟨.bt, by rw [hv]; simp [Is], ?_⟩
 dsimp only [zq8t]
 (refine Y_go 600 ?_; dsimp only [Y_k, zq4u, zq8o, zq6n, Nat.reduceBEq, zq6k, YK, zq8t, zq9i, normF, zq6l, zq6m, zq86, zq89, zq8a, zq87, zq9y, t3n34, T3n34, zq9r, zq9q, zq50, zq8p, zq6q, zq04, zq92, zq9b, zq0i, zq9g, Y_gk, zq6e, YS, zq6a, zq4v, zq6o, zq0b, zq9s, zq6f, YC, t3n0, T3n0, zq9x, YR, zq6c, zq55, zq0r, zq0c, zq53, zq0m, zq6g, zq9p, t3n33, T3n33, zq9j])
 have yes : ∀ s, denAll s.H s.F [4] = some [.bool true] → ∀ E : Env, E.marks = [] → Over ⟨w, w.heap.size, [], 191, []⟩ E → RetG (cxOf Try.prog Try.f3 K3 T3 R) E s := fun s h1 E hm ho => ret_rule (vs := [.bool true]) r3 hm h1 fun W hW => hR _ _ ⟨rfl, (ho.heap hW).fresh'⟩
 refine ⟨fun _ => yes _ rfl _ rfl (Over.refl _), fun hn4 => ⟨fun _ => yes _ rfl _ rfl (Over.refl _), fun hl3 => ?_⟩⟩
 have hn4 : n ≤ 60 := by have := of_decide_eq_false hn4; omega
 have hl3 : l.length ≤ 300 := by have := of_decide_eq_false hl3; omega
 refine call_base (vs := [.int .i64 n, .slice A l.length c]) rfl (R := fun W v w' => OrdR W n l v w') (fun W hW => order10 A c n l W (hA.keep hW.fresh') (by omega)) (fun _ _ _ hr => hr.2) fun W v W1 hW hr ov => ?_
 have hA1 := (hA.keep hW.fresh').keep hr.2
 rcases hr.1 with ⟨hno, hv⟩ | hr1
 ·refine ⟨.tup [.val (.slice none 0 0), .val (.int .i64 2)], by rw [hv]; simp [Is, IsL], ?_⟩
  dsimp only [zq8t]
  (refine Y_go 600 ?_; dsimp only [Y_k, zq4u, zq8o, zq6n, Nat.reduceBEq, zq6k, YK, zq8t, zq5j, zq2f, nth, zq2e, zq6l, zq9i, normF, zq6m, zq86, zq8a, zq87, zq89, zq9y, t3n32, T3n32, zq9r, zq9q, zq9j])
  refine call_val (vs := [.int .i64 n, .slice A l.length c]) rfl (R := fun v => v = .tuple #[.slice none 0 0, .int .i64 2]) (fun W hW => (cycle11 A c n l W (hA1.keep hW.fresh') (by omega)).mono ?_) fun v hv => ⟨.tup [.val (.slice none 0 0), .val (.int .i64 2)], by rw [hv]; simp [Is, IsL], ?_⟩
  ·rintro v w' (⟨_, h1, h2⟩ | ⟨h, _⟩)
   ·exact ⟨h1, h2⟩
   ·exact absurd h hno
  dsimp only [zq8t]
  (refine Y_go 600 ?_; dsimp only [Y_k, zq4u, zq8o, zq6n, Nat.reduceBEq, zq6k, YK, zq8t, zq5j, zq2f, nth, zq2e, zq6l, zq9i, normF, zq6m, zq86, zq8a, zq87, zq89, zq9y, t3n31, T3n31, zq9r, zq9q, zq50, zq8p, zq6q, zq04, zq92, zq9b, zq0i, zq9d, zq9s, zq6h, zq8x, YC, t3n1, T3n1, Y_gk, zq69, YR, zq9c, zq4v, zq6p, zq0b, zq9x, zq9p, t3n30, T3n30, zq55, zq0r, zq51, zq8w, zq0j, t3n2, T3n2, t3n29, T3n29, zq9t, zq9v])
  exact ⟨fun _ => yes _ rfl _ rfl ov, fun h => absurd h (by decide)⟩
 ·have hok : okG n l := by rcases hr1 with ⟨h, _⟩ | ⟨h, _⟩ <;> exact h
  obtain ⟨m, rfl⟩ : ∃ m : Nat, (m : Int) = n := ⟨n.toNat, by have := hok.1; omega⟩
  rw [Int.toNat_natCast] at hr1
  have hei := either hok
  obtain ⟨O, ol, oc, e, hv, he, hes⟩ : ∃ (O : Option Addr) (ol oc : Nat) (e : Int), v = .tuple #[.slice O ol oc, .int .i64 e] ∧ (e = 0 → (ordL l m).length = m ∧ ol = m ∧ RowAt W1 O (isV (ordL l m))) ∧ (e = 0 ↔ cycL l m = []) := by
   rcases hr1 with ⟨_, h, hv⟩ | ⟨_, h, B, bc, hv, ho⟩
   ·exact ⟨none, 0, 0, 250, hv, fun e => absurd e (by decide), fun e => absurd e (by decide), fun e => absurd e (hei.1 h)⟩
   ·have h5 := (ordL_spec l m).1.len
    have h6 : (ordL l m).length = m := by omega
    refine ⟨B, (ordL l m).length, bc, 0, hv, fun _ => ⟨h6, h6, RowAt.of_own ho rfl⟩, fun _ => ?_, fun _ => rfl⟩
    exact Classical.byContradiction fun hne => h (hei.2 hne)
  refine ⟨.tup [.val (.slice O ol oc), .val (.int .i64 e)], by rw [hv]; simp [Is, IsL], ?_⟩
  dsimp only [zq8t]
  (refine Y_go 600 ?_; dsimp only [Y_k, zq4u, zq8o, zq6n, Nat.reduceBEq, zq6k, YK, zq8t, zq5j, zq2f, nth, zq2e, zq6l, zq9i, normF, zq6m, zq86, zq8a, zq87, zq89, zq9y, t3n32, T3n32, zq9r, zq9q, zq9j])
  refine call_base (vs := [.int .i64 m, .slice A l.length c]) rfl (R := fun W v w' => ∃ C cc, v = .tuple #[.slice C (cycL l m).length cc, .int .i64 0] ∧ World.ownsB w' W.heap.size 3 1 (.slice C (cycL l m).length cc) (cycL l m).length (isV (cycL l m)) ∧ Fresh W w') (fun W hW => (cycle11 A c m l W (hA1.keep hW.fresh') (by omega)).mono ?_) (fun _ _ _ ⟨_, _, _, _, hr⟩ => hr) fun W v W2 hW ⟨C, cc, hv, hC, hf⟩ ov2 => ?_
  ·rintro v w' (⟨h, _⟩ | ⟨_, C, cc, h1, h2, h3⟩)
   ·exact absurd hok h
   ·rw [Int.toNat_natCast] at h1 h2; exact ⟨C, cc, h1, h2, h3⟩
  refine ⟨.tup [.val (.slice C (cycL l m).length cc), .val (.int .i64 0)], by rw [hv]; simp [Is, IsL], ?_⟩
  have ov9 : Over ⟨w, w.heap.size, [], 191, []⟩ ⟨W2, W2.heap.size, [], 191, []⟩ := ov.trans ov2
  have hA2 : RowE ⟨W2, W2.heap.size, [], 191, []⟩ A (cellsD l) := ((hA1.keep hW.fresh').keep hf).toE (st := []) (by simp) 191 []
  have hCE : RowE ⟨W2, W2.heap.size, [], 191, []⟩ C (isV (cycL l m)) := own_rowE hC 191 []
  have he2 : e = 0 → (ordL l m).length = m ∧ ol = m ∧ RowE ⟨W2, W2.heap.size, [], 191, []⟩ O (isV (ordL l m)) := fun h => by
   obtain ⟨h1, h2, h3⟩ := he h
   exact ⟨h1, h2, ((h3.keep hW.fresh').keep hf).toE (st := []) (by simp) 191 []⟩
  have hll := law3t (R := R) w ⟨W2, W2.heap.size, [], 191, []⟩ rfl rfl A c m l hA2 hok hl3 O ol oc e C cc hCE he2 (fun s h1 => yes s h1 _ rfl ov9)
  dsimp only [zq8t]
  refine G.le (E' := ⟨W2, W2.heap.size, [], 191, []⟩) rfl (s' := { F := [(38, .tup [.val (.slice C (cycL l m).length cc), .val (.int .i64 0)]), (0, .val (.int .i64 m)), (1, .val (.slice A l.length c)), (4, .bf), (5, .bt), (6, .val (.slice O ol oc)), (7, .val (.int .i64 e))], H := [] }) (fun a W rep => Rep.few rep 0 (by (simp only [setn, List.nil_append, List.cons_append, leF, leH_nil, leH_cons, leF_nil, lk, scp, scpL, scpO, resF, resH, resO, resV, resVL, nth, Nat.reduceBEq, Nat.reduceLT, decide_true, decide_false, List.length, List.length_cons, List.length_nil, Nat.reduceAdd, Bool.and_self, Bool.and_true, and_true, true_and, numF] <;> try simp))) ?_
  clear hC hv ov ov2 hW hA1 hf he he2 hr hr1 hCE
  (refine Y_go 600 ?_; dsimp only [Y_k, zq4u, zq8o, zq6n, Nat.reduceBEq, zq6k, YK, zq8t, zq5j, zq2f, nth, zq2e, zq6l, zq9i, normF, zq6m, zq86, zq87, zq89, zq8a, zq9y, t3n31, T3n31, zq9r, zq9q, zq50, zq8p, zq6q, zq04, zq92, zq9b, zq0i, zq9d, zq9s, zq6h, zq8x, YC, t3n1, T3n1, Y_gk, zq69, YR, zq9c, zq4v, zq6p, zq0b, zq9x, zq9p, t3n30, T3n30, zq55, zq0r, zq51, zq8w, zq0j, t3n2, T3n2, t3n29, T3n29, zq9t, zq9v])
  refine ⟨fun h => absurd h (by decide), fun _ => ⟨fun h => ?_, fun _ => G.le rfl (fun a W rep => rep.few 0 (by (simp only [setn, List.nil_append, List.cons_append, leF, leH_nil, leH_cons, leF_nil, lk, scp, scpL, scpO, resF, resH, resO, resV, resVL, nth, Nat.reduceBEq, Nat.reduceLT, decide_true, decide_false, List.length, List.length_cons, List.length_nil, Nat.reduceAdd, Bool.and_self, Bool.and_true, and_true, true_and, numF] <;> try simp))) hll⟩⟩
  exfalso
  by_cases hc : cycL l m = []
  ·rw [hc, hes.2 hc] at h; exact absurd h (by decide)
  ·have h1 : e ≠ 0 := fun q => hc (hes.1 q)
   have h2 : ((cycL l m).length : Int) ≠ 0 := by have := List.length_pos_iff.2 hc; omega
   have e1 : (((cycL l m).length : Int) == 0) = false := by simpa using h2
   have e2 : (e == 0) = false := by simpa using h1
   rw [e1, e2] at h
   exact absurd h (by decide)
end Go.Proofs.Ytbkpiljencaoeaa
