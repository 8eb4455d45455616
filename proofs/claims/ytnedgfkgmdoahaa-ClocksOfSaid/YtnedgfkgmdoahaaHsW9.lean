/- shuntlaw26.ClocksOf: it answers true. -/
import Derived.Test.YtnedgfkgmdoahaaHsW8
import Derived.Test.YtnedgfkgmdoahaaHsCodeO
set_option linter.unusedSimpArgs false
set_option linter.unusedVariables false
set_option linter.unnecessarySimpa false
namespace Go.Proofs.Ytnedgfkgmdoahaa
open Go Go.Sx Go.Hs Go.Clk
set_option maxRecDepth 100000
def ev77 : Ev := ⟨77, 0, 0, 0, 0, 0, 0, 0, 0⟩
theorem evs_one (h : List Ev) : ∀ u ∈ cellsE h, u.oneCell' = true := by
 intro u hu
 obtain ⟨e, _, he⟩ := List.mem_flatMap.1 hu
 simp only [Ev.cells, List.mem_cons, List.not_mem_nil, or_false] at he
 rcases he with rfl | rfl | rfl | rfl | rfl | rfl | rfl | rfl | rfl <;> rfl
theorem law8 (A : Option Addr) (c : Nat) (h : List Ev) (w : World) (hA : RowAt w A (cellsE h)) :
  CallsV Try.prog 8 [.slice A h.length c] w fun v w' => v = .bool true ∧ Fresh w w' := by
 refine calls_go (keep := K8) (nt := 64) (svs := [.val (.slice A h.length c)]) Try.func8 x8 n8 (by simp) (by simp [IsL, Is]) fun R hR => ?_
 (refine Y_go 600 ?_; dsimp only [X8, numF, Nat.reduceAdd, zq9r, zq9q, Y_k, zq4u, zq8p, zq6p, YK, zq8t, zq9i, normF, zq6n, Nat.reduceBEq, zq6l, zq6k, zq6m, zq86, zq8a, zq87, zq9y, t8n14, T8n14, zq8o, zq55, zq0r, zq50, zq6q, zq04, zq92, zq9b, zq0i, zq9g, zq9s, zq6h, zq8x, YC, t8n0, T8n0, zq6o, zq89, zq9x, zq9p, t8n13, T8n13, zq6u, t8n12, T8n12, zq5l, zq2v, zq2r, zq2o, zq2g, List.length_nil, List.nil_append, zq5g, List.map, zq21, zq7u, zq73, zq0a, dropL, takeL, zq20, splice, setn, zq22, zq25, zq5h, repL, List.cons_append, zq23, Nat.reduceMul, zq7t, List.length_cons, zq8l, zq8m, zq8k, zq24, zq26, zq2w, nth, zq09, zq08, zq2s, zq2n, zq2j, zq2k, denL, den, zq2l, zq2h, zq8f, t8n11, T8n11, zq5o, zq3a, zq39, zq06, zq37, zq3i, zq3d, zq97, Int.reduceToNat, zq9j])
 have ret : ∀ s, denAll s.H s.F [2] = some [.bool true] → RetG (cxOf Try.prog Try.f8 K8 T8 R) ⟨w, w.heap.size, [], 64, []⟩ s := fun s hs =>
  ret_rule (vs := [.bool true]) r8 rfl hs fun W hW => hR _ _ ⟨rfl, hW.fresh'⟩
 refine ⟨fun _ => ret _ rfl, fun hle => ?_⟩
 have hle : h.length ≤ 300 := by have := of_decide_eq_false hle; omega
 refine ⟨cellsE h, by rw [← cellsE_len]; exact hA.rd (evs_one h), ⟨by simp only [maxLen]; omega, by omega⟩, fun A1 c1 g => ⟨⟨by simp only [maxLen]; omega, by omega⟩, fun A2 c2 => ⟨⟨by omega, by omega, by omega⟩, ?_⟩⟩⟩
 have e2 : cellsE h ++ [Value.int IntKind.i64 77, Value.int IntKind.i64 0, Value.int IntKind.i64 0, Value.int IntKind.i64 0, Value.int IntKind.i64 0, Value.int IntKind.i64 0, Value.int IntKind.i64 0, Value.int IntKind.u64 0, Value.int IntKind.i64 0] = cellsE (h ++ [ev77]) := by rw [cellsE_app]; rfl
 rw [e2, Int.toNat_natCast, Nat.sub_zero, Nat.sub_zero]
 have own : ∀ {H : List SO} {W : World}, HeapOk ⟨w, w.heap.size, [], 64, []⟩ H W → ∀ v, nth H 0 = some (.own 65 v 9 A2 (h.length + 1) c2 (cellsE (h ++ [ev77]))) → RowAt W A2 (cellsE h) := fun hW v hi => RowAt.pre (ys := cellsE [ev77]) (by rw [← cellsE_app]; exact hW.rowAt hi)
 have hms : mayL h = (splitL h).isSome := by rw [mayL_sp]; unfold splitL; cases sp h h.length <;> rfl
 have last : (cellsE (h ++ [ev77]))[(h.length : Int).toNat * 9]? = some (.int .i64 77) := by
  have := cellsE_get (h ++ [ev77]) (i := h.length) (k := 0) (by simp) (by omega)
  rw [Int.toNat_natCast]
  rw [Nat.add_zero] at this
  rw [this]; simp [Ev.cells, ev77]
 have tail : G (cxOf Try.prog Try.f8 K8 T8 R) ⟨w, w.heap.size, [], 64, []⟩ [.code (.loop (.ref 6)), .blk 0, .code (.ref 7)] { F := [(0, .val (.slice A h.length c)), (3, .own 0 1), (50, .val (.int .i64 h.length)), (51, .val (.int .i64 0))], H := [.own 65 1 9 A2 (h.length + 1) c2 (cellsE (h ++ [ev77]))] } := by
  refine loop_go (α := Nat) (fun i => i ≤ h.length) (fun _ => ⟨w, w.heap.size, [], 64, []⟩)
   (fun i => { F := [(0, .val (.slice A h.length c)), (3, .own 0 1), (50, .val (.int .i64 h.length)), (51, .val (.int .i64 i))], H := [.own 65 1 9 A2 (h.length + 1) c2 (cellsE (h ++ [ev77]))] }) (fun i => h.length - i) (fun _ => rfl) ?start ?round
  case start =>
   intro a W rep
   exact ⟨0, Nat.zero_le _, rep.le (by (simp only [setn, List.nil_append, List.cons_append, leF, leH_nil, leH_cons, leF_nil, lk, scp, scpL, scpO, resF, resH, resO, resV, resVL, nth, Nat.reduceBEq, Nat.reduceLT, decide_true, decide_false, List.length, List.length_cons, List.length_nil, Nat.reduceAdd, Bool.and_self, Bool.and_true, and_true, true_and, numF] <;> try simp)) (by (simp only [setn, List.nil_append, List.cons_append, leF, leH_nil, leH_cons, leF_nil, lk, scp, scpL, scpO, resF, resH, resO, resV, resVL, nth, Nat.reduceBEq, Nat.reduceLT, decide_true, decide_false, List.length, List.length_cons, List.length_nil, Nat.reduceAdd, Bool.and_self, Bool.and_true, and_true, true_and, numF] <;> try simp))⟩
  case round =>
   intro i hi I again
   have hi : i ≤ h.length := hi
   (refine Y_go 600 ?_; dsimp only [zq9y, t8n6, T8n6, zq9r, zq9q, Y_k, zq50, zq8o, zq6n, Nat.reduceBEq, zq6l, zq6k, zq04, zq92, zq9b, zq0i, zq9e, YK, zq8t, zq9i, normF, zq6m, zq86, zq87, zq8f, t8n5, T8n5, zq9s, zq6h, zq8x, YC, zq9p, t8n4, T8n4, zq9t, zq4u, zq89, t8n3, T8n3, zq58, zq06, zq0y, nth, zq09, zq08, zq0v, zq5c, zq1q, zq1n, zq1c, List.nil_append, List.cons_append, zq1b, zq17, zq0w, zq1p, zq5s, zq3o, eqSV, zq96, zq3p, t8n2, T8n2, zq8p, zq6p, zq8a, zq9x, zqa1, zq4w, zq6q, zq0e, zqa2, zq9u, popTo, zq6i, YP, t8n7, T8n7, zq6o])
   refine ⟨fun hlt => ?_, fun hge => ret _ rfl⟩
   have hlt : i < h.length := by have := of_decide_eq_true hlt; omega
   have hsome : A.isSome = true := hA.isSome (j := i * 9) (by rw [cellsE_len]; omega)
   have cl : ∀ k v, (evA h i).cells[k]? = some v → CellAt ⟨w, w.heap.size, [], 64, []⟩ A ((i : Int).toNat * 9 + k) v := fun k v hk => evCell (rowE0 hA 64 []) hlt k v hk
   have co : ∀ k v, k < 9 → (evA h i).cells[k]? = some v → (cellsE (h ++ [ev77]))[(i : Int).toNat * 9 + k]? = some v := fun k v hk9 hk => by
    rw [Int.toNat_natCast, cellsE_app, List.getElem?_append_left (by rw [cellsE_len]; omega), cellsE_get h hlt hk9]
    rw [evA_lt hlt] at hk; exact hk
   generalize evA h i = e at *
   refine ⟨⟨by omega, by omega⟩, _, co 0 _ (by omega) rfl, _, co 1 _ (by omega) rfl, _, co 2 _ (by omega) rfl, _, co 3 _ (by omega) rfl, _, co 4 _ (by omega) rfl, _, co 5 _ (by omega) rfl, _, co 6 _ (by omega) rfl, _, co 7 _ (by omega) rfl, _, co 8 _ (by omega) rfl, ⟨by omega, by omega, hsome⟩, _, cl 0 _ rfl, _, cl 1 _ rfl, _, cl 2 _ rfl, _, cl 3 _ rfl, _, cl 4 _ rfl, _, cl 5 _ rfl, _, cl 6 _ rfl, _, cl 7 _ rfl, _, cl 8 _ rfl, ?_⟩
   refine ⟨fun hb => absurd hb (by simp), fun _ => ⟨((i + 1 : Nat) : Int), ArOk.to (by omega) (by omega) (by omega), lend_rule fun a W rep => again (i + 1) hlt (by omega) a W (rep.le (by (simp only [setn, List.nil_append, List.cons_append, leF, leH_nil, leH_cons, leF_nil, lk, scp, scpL, scpO, resF, resH, resO, resV, resVL, nth, Nat.reduceBEq, Nat.reduceLT, decide_true, decide_false, List.length, List.length_cons, List.length_nil, Nat.reduceAdd, Bool.and_self, Bool.and_true, and_true, true_and, numF] <;> try simp)) (by (simp only [setn, List.nil_append, List.cons_append, leF, leH_nil, leH_cons, leF_nil, lk, scp, scpL, scpO, resF, resH, resO, resV, resVL, nth, Nat.reduceBEq, Nat.reduceLT, decide_true, decide_false, List.length, List.length_cons, List.length_nil, Nat.reduceAdd, Bool.and_self, Bool.and_true, and_true, true_and, numF] <;> try simp)))⟩⟩
 refine call_rule (vs := [.slice A2 h.length c2]) rfl (R := fun W v w' => (splitL h = none ∧ v = .tuple #[.slice none 0 0, .int .i64 120] ∧ Fresh W w') ∨
   (∃ l, splitL h = some l) ∧ (∃ (B : Option Addr) (bc : Nat), v = .tuple #[.slice B (ofL h).length bc, .int .i64 0] ∧ World.ownsB w' W.heap.size 29 3 (.slice B (ofL h).length bc) (ofL h).length (cellsS (ofL h)) ∧ Fresh W w')) (fun W hW => of29 A2 c2 h W (own hW 1 rfl) (by omega)) fun W v W' hW hr => ?_
 rcases hr with ⟨hs, hv, hf⟩ | ⟨⟨sl, hs⟩, B1, bc1, hv, ho, hf⟩
 ·have hm : mayL h = false := by rw [hms, hs]; rfl
  refine ⟨.tup [.val (.slice none 0 0), .val (.int .i64 120)], _, by rw [hv]; simp [Is, IsL], HExt.refl _, hW.freshK hf, ?_⟩
  clear hv hf hW W W'
  (refine Y_go 600 ?_; dsimp only [zq8t, Y_k, zq4u, zq8o, zq6n, Nat.reduceBEq, zq6k, YK, zq5j, zq2f, nth, zq2e, zq6l, zq9i, normF, zq6m, zq86, zq8a, zq87, zq8f, zq9y, t8n10, T8n10, zq9r, zq9q, zq9j])
  refine call_val (R := fun v => v = .tuple #[.slice none 0 0, .int .i64 120]) (vs := [.slice A h.length c]) rfl (fun W hW => (of30 A c h W (hA.keep hW.fresh') (by omega)).mono ?_) fun v hv => ⟨.tup [.val (.slice none 0 0), .val (.int .i64 120)], by rw [hv]; simp [Is, IsL], ?_⟩
  ·rintro v W' (⟨_, h2, h3⟩ | ⟨h1, _⟩)
   ·exact ⟨h2, h3⟩
   ·rw [hm] at h1; cases h1
  (refine Y_go 600 ?_; dsimp only [zq8t, Y_k, zq4u, zq8o, zq6n, Nat.reduceBEq, zq6k, YK, zq5j, zq2f, nth, zq2e, zq6l, zq9i, normF, zq6m, zq86, zq8a, zq87, zq8f, zq9y, t8n9, T8n9, zq9r, zq9q, zq50, zq04, zq92, zq9b, zq0i, zq9d, Y_gk, zq6e, YS, zq6a, zq9l, zq4v, zq8p, zq6o, zq0b, zq89, zq9s, zq6f, YC, t8n1, T8n1, zq6p, zq9x, YR, zq6c, YG])
  refine ⟨fun hb => absurd hb (by decide), fun _ => ?_⟩
  refine call_val (R := fun v => v = .bool true) (vs := [.slice none 0 0, .slice none 0 0]) rfl (fun W hW => same27 none none 0 0 [] [] W (fun j u hj => by simp [cellsS] at hj) (fun j u hj => by simp [cellsS] at hj) (by simp) rfl) fun v hv => ⟨.bt, by rw [hv]; simp [Is], ?_⟩
  (refine Y_go 600 ?_; dsimp only [zq8t, Y_gk, zq6n, Nat.reduceBEq, zq6l, zq6k, zq6c, YR, zq53, zq8o, zq0m, YK, Y_k, zq4v, zq8p, zq6o, zq0c, zq4u, zq55, zq0r, zq58, zq06, zq0y, nth, zq09, zq08, zq0v, zq5a, zq15, Nat.add_zero, zq13, zq5c, zq1q, zq1n, zq1c, List.nil_append, zq1b, zq18, zq50, zq6q, zq04, zq92, zq9b, zq0i, zq9d, zq9i, normF, zq6m, zq86, zq87, zq8a, zq8f, zq9s, zq6h, zq8x, YC, zq9y, t8n1, T8n1, zq9r, zq9q, zq6p, zq89, zq9x, zq9p, t8n8, T8n8, zq9t, zq9v])
  refine ⟨⟨by omega, by omega⟩, 77, last, fun hb => absurd hb (by decide), fun _ a W rep => tail a W (rep.le (by (simp only [setn, List.nil_append, List.cons_append, leF, leH_nil, leH_cons, leF_nil, lk, scp, scpL, scpO, resF, resH, resO, resV, resVL, nth, Nat.reduceBEq, Nat.reduceLT, decide_true, decide_false, List.length, List.length_cons, List.length_nil, Nat.reduceAdd, Bool.and_self, Bool.and_true, and_true, true_and, numF] <;> try simp)) (by (simp only [setn, List.nil_append, List.cons_append, leF, leH_nil, leH_cons, leF_nil, lk, scp, scpL, scpO, resF, resH, resO, resV, resVL, nth, Nat.reduceBEq, Nat.reduceLT, decide_true, decide_false, List.length, List.length_cons, List.length_nil, Nat.reduceAdd, Bool.and_self, Bool.and_true, and_true, true_and, numF] <;> try simp)))⟩
 ·have hm : mayL h = true := by rw [hms, hs]; rfl
  obtain ⟨A3, c3, e3, x3, k3, i3⟩ := hW.gain ho hf
  injection e3 with e3 _ e4; subst e3; subst e4
  refine ⟨.tup [.own 2 0, .val (.int .i64 0)], _, ?_, x3, k3, ?_⟩
  ·rw [hv]
   simp only [Is, IsL] at i3 ⊢
   exact ⟨_, ⟨_, _, i3, ⟨_, _, rfl, rfl, rfl⟩, rfl⟩, rfl⟩
  clear hv hf hW ho x3 k3 i3 W W'
  simp only [List.cons_append, List.nil_append]
  (refine Y_go 600 ?_; dsimp only [zq8t, Y_k, zq4u, zq8o, zq6n, Nat.reduceBEq, zq6k, YK, zq5j, zq2f, nth, zq2e, zq6l, zq9i, normF, zq6m, zq86, zq8a, zq87, zq8f, zq9y, t8n10, T8n10, zq9r, zq9q, zq9j])
  refine call_rule (vs := [.slice A h.length c]) rfl (R := fun W v w' => ∃ (B : Option Addr) (bc : Nat), v = .tuple #[.slice B (ofL h).length bc, .int .i64 0] ∧ World.ownsB w' W.heap.size 29 3 (.slice B (ofL h).length bc) (ofL h).length (cellsS (ofL h)) ∧ Fresh W w') (fun W hW => (of30 A c h W (hA.keep hW.fresh') (by omega)).mono ?_) fun W v W' hW ⟨B2, bc2, hv, ho, hf⟩ => ?_
  ·rintro v W' (⟨h1, _⟩ | ⟨_, h2⟩)
   ·rw [hm] at h1; cases h1
   ·exact h2
  obtain ⟨A4, c4, e3, x3, k3, i3⟩ := hW.gain ho hf
  injection e3 with e3 _ e4; subst e3; subst e4
  refine ⟨.tup [.own 3 0, .val (.int .i64 0)], _, ?_, x3, k3, ?_⟩
  ·rw [hv]
   simp only [Is, IsL] at i3 ⊢
   exact ⟨_, ⟨_, _, i3, ⟨_, _, rfl, rfl, rfl⟩, rfl⟩, rfl⟩
  clear hv hf hW ho x3 k3 i3
  simp only [List.cons_append, List.nil_append]
  (refine Y_go 600 ?_; dsimp only [zq8t, Y_k, zq4u, zq8o, zq6n, Nat.reduceBEq, zq6k, YK, zq5j, zq2f, nth, zq2e, zq6l, zq9i, normF, zq6m, zq86, zq8a, zq87, zq8f, zq9y, t8n9, T8n9, zq9r, zq9q, zq50, zq04, zq92, zq9b, zq0i, zq9d, Y_gk, zq6e, YS, zq6a, zq9l, zq4v, zq8p, zq6o, zq0b, zq89, zq9s, zq6f, YC, t8n1, T8n1, zq6p, zq9x, YR, zq6c, YG])
  refine ⟨fun hb => absurd hb (by decide), fun _ => ?_⟩
  have hol : (ofL h).length ≤ 1000000 := by have := ofTo_len h h.length; unfold ofL; omega
  refine call_val (R := fun v => v = .bool true) (vs := [.slice B1 (ofL h).length bc1, .slice B2 (ofL h).length bc2]) rfl (fun W hW => same27 B1 B2 bc1 bc2 (ofL h) (ofL h) W (hW.rowAt (i := 2) rfl) (hW.rowAt (i := 3) rfl) hol rfl) fun v hv => ⟨.bt, by rw [hv]; simp [Is], ?_⟩
  (refine Y_go 600 ?_; dsimp only [zq8t, Y_gk, zq6n, Nat.reduceBEq, zq6l, zq6k, zq6c, YR, zq53, zq8o, zq0m, YK, Y_k, zq4v, zq8p, zq6o, zq0c, zq4u, zq55, zq0r, zq58, zq06, zq0y, nth, zq09, zq08, zq0v, zq5a, zq15, Nat.add_zero, zq13, zq5c, zq1q, zq1n, zq1c, List.nil_append, zq1b, zq18, zq50, zq6q, zq04, zq92, zq9b, zq0i, zq9d, zq9i, normF, zq6m, zq86, zq87, zq8a, zq8f, zq9s, zq6h, zq8x, YC, zq9y, t8n1, T8n1, zq9r, zq9q, zq6p, zq89, zq9x, zq9p, t8n8, T8n8, zq9t, zq9v])
  refine ⟨⟨by omega, by omega⟩, 77, last, fun hb => absurd hb (by decide), fun _ a W rep => tail a W (rep.le (by (simp only [setn, List.nil_append, List.cons_append, leF, leH_nil, leH_cons, leF_nil, lk, scp, scpL, scpO, resF, resH, resO, resV, resVL, nth, Nat.reduceBEq, Nat.reduceLT, decide_true, decide_false, List.length, List.length_cons, List.length_nil, Nat.reduceAdd, Bool.and_self, Bool.and_true, and_true, true_and, numF] <;> try simp)) (by (simp only [setn, List.nil_append, List.cons_append, leF, leH_nil, leH_cons, leF_nil, lk, scp, scpL, scpO, resF, resH, resO, resV, resVL, nth, Nat.reduceBEq, Nat.reduceLT, decide_true, decide_false, List.length, List.length_cons, List.length_nil, Nat.reduceAdd, Bool.and_self, Bool.and_true, and_true, true_and, numF] <;> try simp)))⟩
end Go.Proofs.Ytnedgfkgmdoahaa
