/- GraphBehind: the law's function. -/
import Derived.Test.YtbkpiljencaoeaaGrAl
import Derived.Test.YtbkpiljencaoeaaGrPlain
import Derived.Test.YtbkpiljencaoeaaGrCode
set_option linter.unusedSimpArgs false
set_option linter.unusedVariables false
set_option linter.unnecessarySimpa false
namespace Go.Proofs.Ytbkpiljencaoeaa
open Go Go.Sx Go.Gr
set_option maxRecDepth 100000
theorem tabE_of {w' : World} {B : Option Addr} {gs : Nat → Nat} {M : Nat → Nat → Bool} {r n : Nat} (h : TabAt w' B gs M r n) (nt : Nat) (mk : List Nat) : RowE ⟨w', w'.heap.size, [], nt, mk⟩ B (tabV gs r n) ∧ ∀ a, a < r → RowE ⟨w', w'.heap.size, [], nt, mk⟩ (some ⟨gs a, 0, none⟩) (rwV n (M a)) :=
 ⟨h.1.toE (st := []) (by simp) nt mk, fun a ha => (h.2 a ha).toE (st := []) (by simp) nt mk⟩
theorem law5 (A : Option Addr) (c : Nat) (n : Int) (l : List Ed) (w : World) (hA : RowAt w A (cellsD l)) :
  CallsV Try.prog 5 [.int .i64 n, .slice A l.length c] w fun v w' => v = .bool true ∧ Fresh w w' := by
 refine calls_go (keep := K5) (nt := 163) (svs := [.val (.int .i64 n), .val (.slice A l.length c)]) Try.func5 x5 n5 (by simp) (by simp [IsL, Is]) fun R hR => ?_
 (refine Y_go 600 ?_; dsimp only [X5, numF, Nat.reduceAdd, zq9r, zq9q, Y_k, zq4u, zq8p, zq6p, YK, zq8t, zq9i, normF, zq6n, Nat.reduceBEq, zq6l, zq6k, zq6m, zq86, zq8a, zq87, zq9y, t5n32, T5n32, zq9j])
 refine call_val (vs := []) rfl (R := fun v => v = .bool true) (fun W hW => alive9 W) fun v hv => ⟨.bt, by rw [hv]; simp [Is], ?_⟩
 dsimp only [zq8t]
 (refine Y_go 600 ?_; dsimp only [Y_k, zq4u, zq8o, zq6n, Nat.reduceBEq, zq6k, YK, zq8t, zq9i, normF, zq6l, zq6m, zq86, zq89, zq8a, zq87, zq9y, t5n31, T5n31, zq9r, zq9q, zq50, zq8p, zq6q, zq04, zq92, zq9b, zq0i, zq9g, Y_gk, zq6e, YS, zq6a, zq4v, zq6o, zq0b, zq9s, zq6f, YC, t5n0, T5n0, zq9x, YR, zq6c, zq55, zq0r, zq0c, zq53, zq0m, zq6g, zq9p, t5n30, T5n30, zq9j])
 have yes : ∀ s, denAll s.H s.F [4] = some [.bool true] → ∀ E : Env, E.marks = [] → Over ⟨w, w.heap.size, [], 163, []⟩ E → RetG (cxOf Try.prog Try.f5 K5 T5 R) E s := fun s h1 E hm ho => ret_rule (vs := [.bool true]) r5 hm h1 fun W hW => hR _ _ ⟨rfl, (ho.heap hW).fresh'⟩
 refine ⟨fun _ => yes _ rfl _ rfl (Over.refl _), fun hn4 => ⟨fun _ => yes _ rfl _ rfl (Over.refl _), fun hl3 => ?_⟩⟩
 have hn4 : n ≤ 40 := by have := of_decide_eq_false hn4; omega
 have hl3 : l.length ≤ 300 := by have := of_decide_eq_false hl3; omega
 refine call_base (vs := [.int .i64 n, .slice A l.length c]) rfl (R := fun W v w' => ((¬ okG n l ∧ v = .tuple #[.slice none 0 0, .int .i64 2]) ∨
   (okG n l ∧ ∃ B bc gs, v = .tuple #[.slice B n.toNat bc, .int .i64 0] ∧ TabAt w' B gs (bhB l) n.toNat n.toNat)) ∧ Fresh W w') (fun W hW => behind12 A c n l W (hA.keep hW.fresh') (by omega)) (fun _ _ _ hr => hr.2) fun W v W1 hW hr ov => ?_
 have hA1 := (hA.keep hW.fresh').keep hr.2
 rcases hr.1 with ⟨hno, hv⟩ | ⟨hok, B, bc, gs, hv, hT⟩
 ·refine ⟨.tup [.val (.slice none 0 0), .val (.int .i64 2)], by rw [hv]; simp [Is, IsL], ?_⟩
  show G (cxOf Try.prog Try.f5 K5 T5 R) ⟨W1, W1.heap.size, [], 163, []⟩ _ { F := [(32, .tup [.val (.slice none 0 0), .val (.int .i64 2)]), (31, .val (.slice A l.length c)), (30, .val (.int .i64 n)), (0, .val (.int .i64 n)), (1, .val (.slice A l.length c)), (4, .bf), (5, .bt), (27, .bf)], H := [] }
  (refine Y_go 600 ?_; dsimp only [Y_k, zq4u, zq8o, zq6n, Nat.reduceBEq, zq6k, YK, zq8t, zq5j, zq2f, nth, zq2e, zq6l, zq9i, normF, zq6m, zq86, zq8a, zq87, zq89, zq9y, t5n29, T5n29, zq9r, zq9q, zq9j])
  refine call_val (vs := [.int .i64 n, .slice A l.length c]) rfl (R := fun v => v = .tuple #[.slice none 0 0, .int .i64 2]) (fun W hW => (cycle11 A c n l W (hA1.keep hW.fresh') (by omega)).mono ?_) fun v hv => ⟨.tup [.val (.slice none 0 0), .val (.int .i64 2)], by rw [hv]; simp [Is, IsL], ?_⟩
  ·rintro v w' (⟨_, h1, h2⟩ | ⟨h, _⟩)
   ·exact ⟨h1, h2⟩
   ·exact absurd h hno
  dsimp only [zq8t]
  (refine Y_go 600 ?_; dsimp only [Y_k, zq4u, zq8o, zq6n, Nat.reduceBEq, zq6k, YK, zq8t, zq5j, zq2f, nth, zq2e, zq6l, zq9i, normF, zq6m, zq86, zq8a, zq87, zq89, zq9y, t5n28, T5n28, zq9r, zq9q, zq50, zq8p, zq6q, zq04, zq92, zq9b, zq0i, zq9d, Y_gk, zq6e, YS, zq6a, zq4v, zq6o, zq0b, zq9s, zq6f, YC, t5n1, T5n1, zq69, YR, zq9c, zq6p, zq9x, zq6c, zq0c, zq6h, zq8x, zq9p, t5n27, T5n27, zq55, zq0r, t5n2, T5n2, t5n26, T5n26, t5n25, T5n25, zq9t, zq9v])
  exact ⟨fun _ => yes _ rfl _ rfl ov, fun h => absurd h (by decide)⟩
 ·refine ⟨.tup [.val (.slice B n.toNat bc), .val (.int .i64 0)], by rw [hv]; simp [Is, IsL], ?_⟩
  show G (cxOf Try.prog Try.f5 K5 T5 R) ⟨W1, W1.heap.size, [], 163, []⟩ _ { F := [(32, .tup [.val (.slice B n.toNat bc), .val (.int .i64 0)]), (31, .val (.slice A l.length c)), (30, .val (.int .i64 n)), (0, .val (.int .i64 n)), (1, .val (.slice A l.length c)), (4, .bf), (5, .bt), (27, .bf)], H := [] }
  (refine Y_go 600 ?_; dsimp only [Y_k, zq4u, zq8o, zq6n, Nat.reduceBEq, zq6k, YK, zq8t, zq5j, zq2f, nth, zq2e, zq6l, zq9i, normF, zq6m, zq86, zq8a, zq87, zq89, zq9y, t5n29, T5n29, zq9r, zq9q, zq9j])
  refine call_base (vs := [.int .i64 n, .slice A l.length c]) rfl (R := fun W v w' => ∃ C cc, v = .tuple #[.slice C (cycL l n.toNat).length cc, .int .i64 0] ∧ World.ownsB w' W.heap.size 3 1 (.slice C (cycL l n.toNat).length cc) (cycL l n.toNat).length (isV (cycL l n.toNat)) ∧ Fresh W w') (fun W hW => (cycle11 A c n l W (hA1.keep hW.fresh') (by omega)).mono ?_) (fun _ _ _ ⟨_, _, _, _, hr⟩ => hr) fun W v W2 hW ⟨C, cc, hv, hC, hf⟩ ov2 => ?_
  ·rintro v w' (⟨h, _⟩ | ⟨_, C, cc, h1, h2, h3⟩)
   ·exact absurd hok h
   ·exact ⟨C, cc, h1, h2, h3⟩
  refine ⟨.tup [.val (.slice C (cycL l n.toNat).length cc), .val (.int .i64 0)], by rw [hv]; simp [Is, IsL], ?_⟩
  obtain ⟨hTE, hrow⟩ := tabE_of ((hT.keep hW.fresh').keep hf) 163 []
  have hCE : RowE ⟨W2, W2.heap.size, [], 163, []⟩ C (isV (cycL l n.toNat)) := own_rowE hC 163 []
  have hcy := cycL_ok (n := n.toNat) (by rw [Int.toNat_of_nonneg hok.1]; exact hok)
  obtain ⟨m, rfl⟩ : ∃ m : Nat, (m : Int) = n := ⟨n.toNat, by have := hok.1; omega⟩
  rw [Int.toNat_natCast] at *
  dsimp only [zq8t]
  refine G.le (E' := ⟨W2, W2.heap.size, [], 163, []⟩) rfl (s' := { F := [(38, .tup [.val (.slice C (cycL l m).length cc), .val (.int .i64 0)]), (0, .val (.int .i64 m)), (1, .val (.slice A l.length c)), (4, .bf), (5, .bt), (6, .val (.slice B m bc)), (7, .val (.int .i64 0))], H := [] }) (fun a W rep => Rep.few rep 0 (by (simp only [setn, List.nil_append, List.cons_append, leF, leH_nil, leH_cons, leF_nil, lk, scp, scpL, scpO, resF, resH, resO, resV, resVL, nth, Nat.reduceBEq, Nat.reduceLT, decide_true, decide_false, List.length, List.length_cons, List.length_nil, Nat.reduceAdd, Bool.and_self, Bool.and_true, and_true, true_and, numF] <;> try simp))) ?_
  have ov9 : Over ⟨w, w.heap.size, [], 163, []⟩ ⟨W2, W2.heap.size, [], 163, []⟩ := ov.trans ov2
  clear hC hv ov hW hT hA1 hf
  generalize cycL l m = cy at *
  (refine Y_go 600 ?_; dsimp only [Y_k, zq4u, zq8o, zq6n, Nat.reduceBEq, zq6k, YK, zq8t, zq5j, zq2f, nth, zq2e, zq6l, zq9i, normF, zq6m, zq86, zq87, zq89, zq8a, zq9y, t5n28, T5n28, zq9r, zq9q, zq50, zq8p, zq6q, zq04, zq92, zq9b, zq0i, zq9d, Y_gk, zq6e, YS, zq6a, zq4v, zq6o, zq0b, zq9s, zq6f, YC, t5n1, T5n1, zq69, YR, zq9c, zq6p, zq9x, zq6c, zq0c, zq6h, zq8x, zq9p, t5n27, T5n27, zq55, zq0r, t5n2, T5n2, t5n26, T5n26, t5n25, T5n25, zq9t, zq9v])
  refine ⟨fun h => absurd h (by decide), fun _ => ⟨fun h => absurd h (by decide), fun _ => ⟨fun h => absurd h (by simp), fun _ => ?_⟩⟩⟩
  have hcl : cy.length ≤ m := by
   rcases hcy with ⟨h, _⟩ | ⟨h, _⟩
   ·rw [h]; exact Nat.zero_le _
   ·exact nodup_le m cy h.nd h.rg
  have hself : ((List.range m).any fun a => bhB l a a) = decide (0 < cy.length) := by
   rw [Bool.eq_iff_iff, List.any_eq_true, decide_eq_true_eq]
   rcases hcy with ⟨h, h2⟩ | ⟨h, _⟩
   ·rw [h]
    constructor
    ·rintro ⟨a, ha, hb⟩
     rw [h2 a (List.mem_range.1 ha)] at hb; cases hb
    ·intro h; simp at h
   ·refine ⟨fun _ => List.length_pos_iff.2 h.ne, fun hp => ?_⟩
    have h3 := h.rg cy[0] (List.getElem_mem hp)
    have h4 := h.self cy[0] (List.getElem_mem hp)
    refine ⟨cy[0].toNat, List.mem_range.2 (by omega), (bhB_iff l _ _).2 ?_⟩
    rw [Int.toNat_of_nonneg h3.1]; exact h4
  have hcs : ∀ x ∈ cy, (0 ≤ x ∧ x < m) ∧ bhB l x.toNat x.toNat = true := fun x hx => by
   rcases hcy with ⟨h, _⟩ | ⟨h, _⟩
   ·rw [h] at hx; cases hx
   ·refine ⟨h.rg x hx, (bhB_iff l _ _).2 ?_⟩
    rw [Int.toNat_of_nonneg (h.rg x hx).1]; exact h.self x hx
  have sB : 0 < m → B.isSome = true := fun h => hTE.isSome (j := 0) (by rw [tabV_len]; exact h)
  have sC : 0 < cy.length → C.isSome = true := fun h => hCE.isSome (j := 0) (by rw [isV_len]; exact h)
  have tb : ∀ a, a < m → CellAt ⟨W2, W2.heap.size, [], 163, []⟩ B (((a : Nat) : Int).toNat * 1) (.slice (some ⟨gs a, 0, none⟩) m m) := fun a ha => by
   rw [Int.toNat_natCast, Nat.mul_one]; exact hTE.cell (tabV_get ha)
  have rw' : ∀ a k, a < m → k < m → CellAt ⟨W2, W2.heap.size, [], 163, []⟩ (some ⟨gs a, 0, none⟩) (((k : Nat) : Int).toNat * 1) (.bool (bhB l a k)) := fun a k ha hk => by
   rw [Int.toNat_natCast, Nat.mul_one]; exact (hrow a ha).cell (rwV_get _ hk)
  clear hcy hrow hTE
  refine loop_go (α := Nat) (fun i => i ≤ m) (fun _ => ⟨W2, W2.heap.size, [], 163, []⟩)
   (fun i => { F := [(0, .val (.int .i64 m)), (5, .bt), (6, .val (.slice B m bc)), (8, .val (.slice C cy.length cc)), (10, .val (.bool ((List.range i).any fun a => bhB l a a))), (11, .val (.int .i64 i))], H := [] }) (fun i => m - i) (fun _ => rfl) ?start ?round
  case start =>
   intro a W rep
   refine ⟨0, Nat.zero_le _, ?_⟩
   exact (rep_swap 10 (x := .bf) (y := .val (.bool false)) rep rfl (fun v h => by simpa [Is] using h)).le (by (simp only [setn, List.nil_append, List.cons_append, leF, leH_nil, leH_cons, leF_nil, lk, scp, scpL, scpO, resF, resH, resO, resV, resVL, nth, Nat.reduceBEq, Nat.reduceLT, decide_true, decide_false, List.length, List.length_cons, List.length_nil, Nat.reduceAdd, Bool.and_self, Bool.and_true, and_true, true_and, numF] <;> try simp)) (by (simp only [setn, List.nil_append, List.cons_append, leF, leH_nil, leH_cons, leF_nil, lk, scp, scpL, scpO, resF, resH, resO, resV, resVL, nth, Nat.reduceBEq, Nat.reduceLT, decide_true, decide_false, List.length, List.length_cons, List.length_nil, Nat.reduceAdd, Bool.and_self, Bool.and_true, and_true, true_and, numF] <;> try simp))
  case round =>
   rintro i hi I again
   (refine Y_go 600 ?_; dsimp only [zq9y, t5n7, T5n7, zq9r, zq9q, Y_k, zq4u, zq8o, zq6n, Nat.reduceBEq, zq6l, zq6k, YK, zq8t, zq50, zq04, zq92, zq9b, zq0i, zq9e, zq9i, normF, zq6m, zq86, zq87, zq89, zq9s, zq6h, zq8x, YC, zq9p, t5n6, T5n6, zq9t, zq58, zq06, zq0w, zq5c, zq1p, zq1g, List.nil_append, zq1b, zq18, zq55, zq0r, zq9d, t5n3, T5n3, zq8p, zq6p, zq8a, zq9x, t5n4, T5n4, Y_gk, zq6e, YS, zq6a, zq4v, zq6o, zq0b, zqa1, t5n5, T5n5, zq4w, zq6q, zq0e, zqa2, YR, zq6c, zq1d, zq0c, zq9u, popTo, zq6i, YP, t5n24, T5n24, zq9v])
   refine ⟨fun hlt => ?_, fun hge => ?_⟩
   ·have hlt : i < m := by have := of_decide_eq_true hlt; omega
    have hs1 : ((List.range (i + 1)).any fun a => bhB l a a) = (((List.range i).any fun a => bhB l a a) || bhB l i i) := by rw [List.range_succ, List.any_append]; simp
    refine ⟨⟨by omega, by omega, sB (by omega)⟩, _, _, _, tb i hlt, fun h => absurd h (by simp), fun _ => ⟨fun hb => ?_, fun hb => ?_⟩⟩
    ·refine ⟨((i + 1 : Nat) : Int), ArOk.to (by omega) (by omega) (by omega), lend_rule fun a W rep => again (i + 1) hlt (by omega) a W ?_⟩
     rw [hs1, hb, Bool.true_or]
     exact (rep_swap 10 (x := .bt) (y := .val (.bool true)) rep rfl (fun v h => by simpa [Is] using h)).le (by (simp only [setn, List.nil_append, List.cons_append, leF, leH_nil, leH_cons, leF_nil, lk, scp, scpL, scpO, resF, resH, resO, resV, resVL, nth, Nat.reduceBEq, Nat.reduceLT, decide_true, decide_false, List.length, List.length_cons, List.length_nil, Nat.reduceAdd, Bool.and_self, Bool.and_true, and_true, true_and, numF] <;> try simp)) (by (simp only [setn, List.nil_append, List.cons_append, leF, leH_nil, leH_cons, leF_nil, lk, scp, scpL, scpO, resF, resH, resO, resV, resVL, nth, Nat.reduceBEq, Nat.reduceLT, decide_true, decide_false, List.length, List.length_cons, List.length_nil, Nat.reduceAdd, Bool.and_self, Bool.and_true, and_true, true_and, numF] <;> try simp))
    ·refine ⟨⟨by omega, by omega, sB (by omega)⟩, _, _, _, tb i hlt, ⟨by omega, by omega, rfl⟩, _, rw' i i hlt hlt, ((i + 1 : Nat) : Int), ArOk.to (by omega) (by omega) (by omega), lend_rule fun a W rep => again (i + 1) hlt (by omega) a W ?_⟩
     rw [hs1, hb, Bool.false_or]
     exact rep.le (by (simp only [setn, List.nil_append, List.cons_append, leF, leH_nil, leH_cons, leF_nil, lk, scp, scpL, scpO, resF, resH, resO, resV, resVL, nth, Nat.reduceBEq, Nat.reduceLT, decide_true, decide_false, List.length, List.length_cons, List.length_nil, Nat.reduceAdd, Bool.and_self, Bool.and_true, and_true, true_and, numF] <;> try simp)) (by (simp only [setn, List.nil_append, List.cons_append, leF, leH_nil, leH_cons, leF_nil, lk, scp, scpL, scpO, resF, resH, resO, resV, resVL, nth, Nat.reduceBEq, Nat.reduceLT, decide_true, decide_false, List.length, List.length_cons, List.length_nil, Nat.reduceAdd, Bool.and_self, Bool.and_true, and_true, true_and, numF] <;> try simp))
   ·have hie : i = m := by have := of_decide_eq_false hge; omega
    subst hie
    rw [hself]
    clear again
    refine loop_go (α := Nat) (fun p => p ≤ i) (fun _ => ⟨W2, W2.heap.size, [], 163, []⟩)
     (fun p => { F := [(0, .val (.int .i64 i)), (5, .bt), (6, .val (.slice B i bc)), (8, .val (.slice C cy.length cc)), (10, .val (.bool (decide (0 < cy.length)))), (12, .val (.int .i64 p))], H := [] }) (fun p => i - p) (fun _ => rfl) ?start2 ?round2
    case start2 =>
     intro a W rep
     exact ⟨0, Nat.zero_le _, rep.le (by (simp only [setn, List.nil_append, List.cons_append, leF, leH_nil, leH_cons, leF_nil, lk, scp, scpL, scpO, resF, resH, resO, resV, resVL, nth, Nat.reduceBEq, Nat.reduceLT, decide_true, decide_false, List.length, List.length_cons, List.length_nil, Nat.reduceAdd, Bool.and_self, Bool.and_true, and_true, true_and, numF] <;> try simp)) (by (simp only [setn, List.nil_append, List.cons_append, leF, leH_nil, leH_cons, leF_nil, lk, scp, scpL, scpO, resF, resH, resO, resV, resVL, nth, Nat.reduceBEq, Nat.reduceLT, decide_true, decide_false, List.length, List.length_cons, List.length_nil, Nat.reduceAdd, Bool.and_self, Bool.and_true, and_true, true_and, numF] <;> try simp))⟩
    case round2 =>
     rintro p hp I2 again2
     (refine Y_go 600 ?_; dsimp only [zq9y, t5n17, T5n17, zq9r, zq9q, Y_k, zq4u, zq8o, zq6n, Nat.reduceBEq, zq6l, zq6k, YK, zq8t, zq50, zq04, zq92, zq9b, zq0i, zq9e, zq9i, normF, zq6m, zq86, zq87, zq89, zq9s, zq6h, zq8x, YC, zq9p, t5n16, T5n16, zq9t, zq8p, zq6q, zq9v, zq9u, popTo, zq6i, YP, t5n23, T5n23, zq8a])
     refine ⟨fun hlt => ?_, fun hge => ?_⟩
     ·have hpi : p < i := by have := of_decide_eq_true hlt; omega
      refine loop_go (α := Nat) (fun q => q ≤ i) (fun _ => ⟨W2, W2.heap.size, [], 163, []⟩)
       (fun q => { F := [(0, .val (.int .i64 i)), (5, .bt), (6, .val (.slice B i bc)), (8, .val (.slice C cy.length cc)), (10, .val (.bool (decide (0 < cy.length)))), (12, .val (.int .i64 p)), (13, .val (.int .i64 q))], H := [] }) (fun q => i - q) (fun _ => rfl) ?start3 ?round3
      case start3 =>
       intro a W rep
       exact ⟨0, Nat.zero_le _, rep.le (by (simp only [setn, List.nil_append, List.cons_append, leF, leH_nil, leH_cons, leF_nil, lk, scp, scpL, scpO, resF, resH, resO, resV, resVL, nth, Nat.reduceBEq, Nat.reduceLT, decide_true, decide_false, List.length, List.length_cons, List.length_nil, Nat.reduceAdd, Bool.and_self, Bool.and_true, and_true, true_and, numF] <;> try simp)) (by (simp only [setn, List.nil_append, List.cons_append, leF, leH_nil, leH_cons, leF_nil, lk, scp, scpL, scpO, resF, resH, resO, resV, resVL, nth, Nat.reduceBEq, Nat.reduceLT, decide_true, decide_false, List.length, List.length_cons, List.length_nil, Nat.reduceAdd, Bool.and_self, Bool.and_true, and_true, true_and, numF] <;> try simp))⟩
      case round3 =>
       rintro q hq I3 again3
       (refine Y_go 600 ?_; dsimp only [zq9y, t5n14, T5n14, zq9r, zq9q, Y_k, zq4u, zq8o, zq6n, Nat.reduceBEq, zq6l, zq6k, YK, zq8t, zq50, zq04, zq92, zq9b, zq0i, zq9e, zq9i, normF, zq6m, zq86, zq87, zq89, zq9s, zq6h, zq8x, YC, zq9p, t5n13, T5n13, zq9t, zq8p, zq6q, zq9v, zq9u, popTo, zq6i, YP, zqa1, t5n15, T5n15, zq4w, zq0e, zq8a, zqa2])
       refine ⟨fun hlt => ?_, fun hge => ?_⟩
       ·have hqi : q < i := by have := of_decide_eq_true hlt; omega
        refine loop_go (α := Nat) (fun k => k ≤ i) (fun _ => ⟨W2, W2.heap.size, [], 163, []⟩)
         (fun k => { F := [(0, .val (.int .i64 i)), (5, .bt), (6, .val (.slice B i bc)), (8, .val (.slice C cy.length cc)), (10, .val (.bool (decide (0 < cy.length)))), (12, .val (.int .i64 p)), (13, .val (.int .i64 q)), (14, .val (.int .i64 k))], H := [] }) (fun k => i - k) (fun _ => rfl) ?start4 ?round4
        case start4 =>
         intro a W rep
         exact ⟨0, Nat.zero_le _, rep.le (by (simp only [setn, List.nil_append, List.cons_append, leF, leH_nil, leH_cons, leF_nil, lk, scp, scpL, scpO, resF, resH, resO, resV, resVL, nth, Nat.reduceBEq, Nat.reduceLT, decide_true, decide_false, List.length, List.length_cons, List.length_nil, Nat.reduceAdd, Bool.and_self, Bool.and_true, and_true, true_and, numF] <;> try simp)) (by (simp only [setn, List.nil_append, List.cons_append, leF, leH_nil, leH_cons, leF_nil, lk, scp, scpL, scpO, resF, resH, resO, resV, resVL, nth, Nat.reduceBEq, Nat.reduceLT, decide_true, decide_false, List.length, List.length_cons, List.length_nil, Nat.reduceAdd, Bool.and_self, Bool.and_true, and_true, true_and, numF] <;> try simp))⟩
        case round4 =>
         rintro k hk I4 again4
         (refine Y_go 600 ?_; dsimp only [zq9y, t5n11, T5n11, zq9r, zq9q, Y_k, zq4u, zq8o, zq6n, Nat.reduceBEq, zq6l, zq6k, YK, zq8t, zq50, zq04, zq92, zq9b, zq0i, zq9e, Y_gk, zq6d, YR, zq69, zq58, zq06, zq0w, zq5c, zq1p, zq1g, List.nil_append, zq1b, zq18, zq1d, zq4v, zq8p, zq6p, zq0b, zq9i, normF, zq6m, zq86, zq87, zq89, zq9s, zq6h, zq8x, YC, zq9p, t5n10, T5n10, zq9t, zq53, zq0o, t5n8, T5n8, zq8a, zq9x, zqa1, t5n9, T5n9, zq4w, zq6q, zq0e, zqa2, YS, zq6b, zq0c, zq6g, zq9u, popTo, zq6i, YP, t5n12, T5n12])
         have out : ∃ r, ArOk .add .i64 (q : Int) 1 r ∧ G (cxOf Try.prog Try.f5 K5 T5 R) ⟨W2, W2.heap.size, [], 163, []⟩ [.lend I3, .blk 4, .blk 3, .code (.ref 15), .lend I2, .blk 2, .code (.ref 23)] { F := [(0, .val (.int .i64 i)), (5, .bt), (6, .val (.slice B i bc)), (8, .val (.slice C cy.length cc)), (10, .val (.bool (decide (0 < cy.length)))), (12, .val (.int .i64 p)), (13, .val (.int .i64 r))], H := [] } :=
          ⟨((q + 1 : Nat) : Int), ArOk.to (by omega) (by omega) (by omega), lend_rule fun a W rep => again3 (q + 1) hqi (by omega) a W (rep.le (by (simp only [setn, List.nil_append, List.cons_append, leF, leH_nil, leH_cons, leF_nil, lk, scp, scpL, scpO, resF, resH, resO, resV, resVL, nth, Nat.reduceBEq, Nat.reduceLT, decide_true, decide_false, List.length, List.length_cons, List.length_nil, Nat.reduceAdd, Bool.and_self, Bool.and_true, and_true, true_and, numF] <;> try simp)) (by (simp only [setn, List.nil_append, List.cons_append, leF, leH_nil, leH_cons, leF_nil, lk, scp, scpL, scpO, resF, resH, resO, resV, resVL, nth, Nat.reduceBEq, Nat.reduceLT, decide_true, decide_false, List.length, List.length_cons, List.length_nil, Nat.reduceAdd, Bool.and_self, Bool.and_true, and_true, true_and, numF] <;> try simp)))⟩
         obtain ⟨r3, har3, hg3⟩ := out
         refine ⟨fun hlt => ?_, fun hge => ⟨r3, har3, G.le rfl (fun a W rep => rep.few 0 (by (simp only [setn, List.nil_append, List.cons_append, leF, leH_nil, leH_cons, leF_nil, lk, scp, scpL, scpO, resF, resH, resO, resV, resVL, nth, Nat.reduceBEq, Nat.reduceLT, decide_true, decide_false, List.length, List.length_cons, List.length_nil, Nat.reduceAdd, Bool.and_self, Bool.and_true, and_true, true_and, numF] <;> try simp))) hg3⟩⟩
         have hki : k < i := by have := of_decide_eq_true hlt; omega
         have next : ∀ F, leF 0 F [(0, .val (.int .i64 i)), (5, .bt), (6, .val (.slice B i bc)), (8, .val (.slice C cy.length cc)), (10, .val (.bool (decide (0 < cy.length)))), (12, .val (.int .i64 p)), (13, .val (.int .i64 q)), (14, .val (.int .i64 ((k + 1 : Nat) : Int)))] → G (cxOf Try.prog Try.f5 K5 T5 R) ⟨W2, W2.heap.size, [], 163, []⟩ [.lend I4, .blk 6, .blk 5, .code (.ref 12), .lend I3, .blk 4, .blk 3, .code (.ref 15), .lend I2, .blk 2, .code (.ref 23)] { F := F, H := [] } := fun F hF =>
          lend_rule fun a W rep => again4 (k + 1) hki (by omega) a W (rep.few 0 hF)
         have hak : ArOk .add .i64 (k : Int) 1 ((k + 1 : Nat) : Int) := ArOk.to (by omega) (by omega) (by omega)
         refine ⟨⟨by omega, by omega, sB (by omega)⟩, _, _, _, tb p hpi, ⟨by omega, by omega, rfl⟩, _, rw' p q hpi hqi, fun h1 => ?_, fun _ => ⟨r3, har3, G.le rfl (fun a W rep => rep.few 0 (by (simp only [setn, List.nil_append, List.cons_append, leF, leH_nil, leH_cons, leF_nil, lk, scp, scpL, scpO, resF, resH, resO, resV, resVL, nth, Nat.reduceBEq, Nat.reduceLT, decide_true, decide_false, List.length, List.length_cons, List.length_nil, Nat.reduceAdd, Bool.and_self, Bool.and_true, and_true, true_and, numF] <;> try simp))) hg3⟩⟩
         refine ⟨⟨by omega, by omega, sB (by omega)⟩, _, _, _, tb q hqi, ⟨by omega, by omega, rfl⟩, _, rw' q k hqi hki, fun h2 => ?_, fun _ => ⟨_, hak, next _ (by (simp only [setn, List.nil_append, List.cons_append, leF, leH_nil, leH_cons, leF_nil, lk, scp, scpL, scpO, resF, resH, resO, resV, resVL, nth, Nat.reduceBEq, Nat.reduceLT, decide_true, decide_false, List.length, List.length_cons, List.length_nil, Nat.reduceAdd, Bool.and_self, Bool.and_true, and_true, true_and, numF] <;> try simp))⟩⟩
         have h3 : bhB l p k = true := (bhB_iff l p k).2 (((bhB_iff l p q).1 h1).trans ((bhB_iff l q k).1 h2))
         refine ⟨⟨by omega, by omega, sB (by omega)⟩, _, _, _, tb p hpi, ⟨by omega, by omega, rfl⟩, _, rw' p k hpi hki, fun h => ?_, fun _ => ⟨_, hak, next _ (by (simp only [setn, List.nil_append, List.cons_append, leF, leH_nil, leH_cons, leF_nil, lk, scp, scpL, scpO, resF, resH, resO, resV, resVL, nth, Nat.reduceBEq, Nat.reduceLT, decide_true, decide_false, List.length, List.length_cons, List.length_nil, Nat.reduceAdd, Bool.and_self, Bool.and_true, and_true, true_and, numF] <;> try simp))⟩⟩
         rw [h3] at h; cases h
       ·exact ⟨((p + 1 : Nat) : Int), ArOk.to (by omega) (by omega) (by omega), lend_rule fun a W rep => again2 (p + 1) hpi (by omega) a W (rep.le (by (simp only [setn, List.nil_append, List.cons_append, leF, leH_nil, leH_cons, leF_nil, lk, scp, scpL, scpO, resF, resH, resO, resV, resVL, nth, Nat.reduceBEq, Nat.reduceLT, decide_true, decide_false, List.length, List.length_cons, List.length_nil, Nat.reduceAdd, Bool.and_self, Bool.and_true, and_true, true_and, numF] <;> try simp)) (by (simp only [setn, List.nil_append, List.cons_append, leF, leH_nil, leH_cons, leF_nil, lk, scp, scpL, scpO, resF, resH, resO, resV, resVL, nth, Nat.reduceBEq, Nat.reduceLT, decide_true, decide_false, List.length, List.length_cons, List.length_nil, Nat.reduceAdd, Bool.and_self, Bool.and_true, and_true, true_and, numF] <;> try simp)))⟩
     ·clear again2
      refine loop_go (α := Nat) (fun q => q ≤ cy.length) (fun _ => ⟨W2, W2.heap.size, [], 163, []⟩)
       (fun q => { F := [(0, .val (.int .i64 i)), (5, .bt), (6, .val (.slice B i bc)), (8, .val (.slice C cy.length cc)), (10, .val (.bool (decide (0 < cy.length)))), (15, .val (.int .i64 q))], H := [] }) (fun q => cy.length - q) (fun _ => rfl) ?start5 ?round5
      case start5 =>
       intro a W rep
       exact ⟨0, Nat.zero_le _, rep.le (by (simp only [setn, List.nil_append, List.cons_append, leF, leH_nil, leH_cons, leF_nil, lk, scp, scpL, scpO, resF, resH, resO, resV, resVL, nth, Nat.reduceBEq, Nat.reduceLT, decide_true, decide_false, List.length, List.length_cons, List.length_nil, Nat.reduceAdd, Bool.and_self, Bool.and_true, and_true, true_and, numF] <;> try simp)) (by (simp only [setn, List.nil_append, List.cons_append, leF, leH_nil, leH_cons, leF_nil, lk, scp, scpL, scpO, resF, resH, resO, resV, resVL, nth, Nat.reduceBEq, Nat.reduceLT, decide_true, decide_false, List.length, List.length_cons, List.length_nil, Nat.reduceAdd, Bool.and_self, Bool.and_true, and_true, true_and, numF] <;> try simp))⟩
      case round5 =>
       rintro q hq I5 again5
       (refine Y_go 600 ?_; dsimp only [zq9y, t5n21, T5n21, zq9r, zq9q, Y_k, zq4u, zq8o, zq6n, Nat.reduceBEq, zq6l, zq6k, YK, zq8t, zq55, zq0r, zq50, zq04, zq92, zq9b, zq0i, zq9e, zq9i, normF, zq6m, zq86, zq87, zq89, zq9s, zq6h, zq8x, YC, zq9p, t5n20, T5n20, zq9t, zq58, zq06, zq0w, zq5c, zq1p, zq1c, List.nil_append, zq1b, zq18, zq8p, zq6q, Y_gk, zq6e, YS, zq6a, zq4v, zq6o, zq0b, zq6f, t5n18, T5n18, zq6p, zq8a, zq9x, YR, zq6c, zq9h, zq0c, zq1g, zq1d, zq53, zq0o, zqa1, t5n19, T5n19, zq4w, zq0e, zqa2, zq9u, popTo, zq6i, YP, t5n22, T5n22, zq69, zq9g, zq51, zq8w, zq0k])
       refine ⟨fun hlt => ?_, fun hge => ?_⟩
       ·have hqi : q < cy.length := by have := of_decide_eq_true hlt; omega
        have hg := List.getElem?_eq_getElem hqi
        have hx := hcs _ (List.getElem_mem hqi)
        generalize cy[q] = x at hg hx
        obtain ⟨x, rfl⟩ : ∃ t : Nat, (t : Int) = x := ⟨x.toNat, by omega⟩
        rw [Int.toNat_natCast] at hx
        have hxi : x < i := by omega
        have hc : CellAt ⟨W2, W2.heap.size, [], 163, []⟩ C ((q : Int).toNat * 1) (.int .i64 (x : Int)) := by rw [Int.toNat_natCast, Nat.mul_one]; exact hCE.cell (isV_get _ _ _ hg)
        have bq : 0 ≤ (q : Int) ∧ (q : Int) < (cy.length : Int) ∧ C.isSome = true := ⟨by omega, by omega, sC (by omega)⟩
        refine ⟨bq, _, hc, fun h => absurd (of_decide_eq_true h) (by omega), fun _ => ⟨bq, _, hc, fun h => absurd (of_decide_eq_true h) (by omega), fun _ => ⟨bq, _, hc, ⟨by omega, by omega, sB (by omega)⟩, _, _, _, tb x hxi, bq, _, hc, ⟨by omega, by omega, rfl⟩, _, rw' x x hxi hxi, fun h => ?_, fun _ => ⟨((q + 1 : Nat) : Int), ArOk.to (by omega) (by omega) (by omega), lend_rule fun a W rep => again5 (q + 1) hqi (by omega) a W (rep.le (by (simp only [setn, List.nil_append, List.cons_append, leF, leH_nil, leH_cons, leF_nil, lk, scp, scpL, scpO, resF, resH, resO, resV, resVL, nth, Nat.reduceBEq, Nat.reduceLT, decide_true, decide_false, List.length, List.length_cons, List.length_nil, Nat.reduceAdd, Bool.and_self, Bool.and_true, and_true, true_and, numF] <;> try simp)) (by (simp only [setn, List.nil_append, List.cons_append, leF, leH_nil, leH_cons, leF_nil, lk, scp, scpL, scpO, resF, resH, resO, resV, resVL, nth, Nat.reduceBEq, Nat.reduceLT, decide_true, decide_false, List.length, List.length_cons, List.length_nil, Nat.reduceAdd, Bool.and_self, Bool.and_true, and_true, true_and, numF] <;> try simp)))⟩⟩⟩⟩
        rw [hx.2] at h; cases h
       ·refine yes _ ?_ _ rfl ov9
        have e : (decide (0 < cy.length) == decide ((cy.length : Int) > 0)) = true := by
         have : decide ((cy.length : Int) > 0) = decide (0 < cy.length) := decide_eq_decide.2 (by omega)
         rw [this]; simp
        rw [e]; rfl
end Go.Proofs.Ytbkpiljencaoeaa
