/- The document's Committed. -/
import Derived.Test.YtbkpiljencaoeaaGrT7
import Derived.Test.YtbkpiljencaoeaaGHsX3
import Derived.Test.YtbkpiljencaoeaaGrCodeT
set_option linter.unusedSimpArgs false
set_option linter.unusedVariables false
set_option linter.unnecessarySimpa false
namespace Go.Proofs.Ytbkpiljencaoeaa
open Go Go.Sx Go.Hs Go.Gr
set_option maxRecDepth 100000
theorem refcommitted33 (A : Option Addr) (c : Nat) (h : List Ev) (w : World) (hA : RowAt w A (cellsE h)) (hl : h.length ≤ 1000) :
  CallsV Try.prog 33 [.slice A h.length c] w fun v w' => ComP h v w' ∧ Fresh w w' := by
 refine calls_go (keep := K33) (nt := 48) (svs := [.val (.slice A h.length c)]) Try.func33 x33 n33 (by simp) (by simp [IsL, Is]) fun R hR => ?_
 (refine Y_go 600 ?_; dsimp only [X33, numF, Nat.reduceAdd, zq9r, zq9q, Y_k, zq4u, zq8p, zq6u, YK, zq8t, zq6q, zq9i, normF, zq6n, Nat.reduceBEq, zq6l, zq6k, zq6m, zq86, zq87, zq9y, t33n12, T33n12, zq8o, zq9j])
 refine call_val (R := fun v => v = .bool (mayL h)) (vs := [.slice A h.length c]) rfl (fun W hW => may34 A c h W (hA.keep hW.fresh') (by omega)) fun v hv => ?_
 have hms := mayL_sp h
 cases hm : mayL h with
 | false =>
  rw [hm] at hv
  refine ⟨.bf, by rw [hv]; simp [Is], ?_⟩
  dsimp only [zq8t]
  (refine Y_go 600 ?_; dsimp only [Y_k, zq4u, zq8o, zq6n, Nat.reduceBEq, zq6k, YK, zq8t, zq9i, normF, zq6l, zq6m, zq86, zq8a, zq87, zq9y, t33n11, T33n11, zq9r, zq9q, zq53, zq0n, zq89, zq9s, zq6f, YC, t33n0, T33n0, zq8p, zq6u, zq6q, zq9x])
  refine ret_rule (vs := [.slice none 0 0, .int .i64 120]) r33 rfl rfl fun W hW => hR _ _ ⟨.inl ⟨?_, rfl⟩, hW.fresh'⟩
  rw [hm] at hms
  unfold comO splitL
  cases hq : sp h h.length with
  | none => rfl
  | some s => rw [hq] at hms; cases hms
 | true =>
 rw [hm] at hv hms
 refine ⟨.bt, by rw [hv]; simp [Is], ?_⟩
 dsimp only [zq8t]
 (refine Y_go 600 ?_; dsimp only [Y_k, zq4u, zq8o, zq6n, Nat.reduceBEq, zq6k, YK, zq8t, zq9i, normF, zq6l, zq6m, zq86, zq89, zq87, zq9y, t33n11, T33n11, zq9r, zq9q, zq53, zq0m, zq8a, zq9s, zq6g, YC, zq9p, t33n10, T33n10, zq9j])
 refine call_base (vs := [.slice A h.length c]) rfl (R := fun W v w' => ∃ (z : List (At × Hd)) (B D : Option Addr) (bc dc : Nat), z.map (·.1) = splitR h ∧ v = .tuple #[.slice B z.length bc, .slice D z.length dc] ∧ RowAt w' B (cellsTs z) ∧ AttAt w' z ∧ Fresh W w') (fun W hW => (refsplit35 A c h W (hA.keep hW.fresh') hl hm).mono fun v w' ⟨z, B, D, bc, dc, h1, h2, h3, h4, h5, h6, _⟩ => ⟨z, B, D, bc, dc, h1, h2, RowAt.of_own h3 rfl, h5, h6⟩) (fun _ _ _ hr => by obtain ⟨_, _, _, _, _, _, _, _, _, hf⟩ := hr; exact hf) fun W v W' hW hr ov => ?_
 obtain ⟨z, B, D, bc, dc, hz, hv, hrow, hat, hf⟩ := hr
 refine ⟨.tup [.val (.slice B z.length bc), .val (.slice D z.length dc)], by rw [hv]; simp [Is, IsL], ?_⟩
 have hzE : RowE ⟨W', W'.heap.size, [], 48, []⟩ B (cellsTs z) := rowE0 hrow 48 []
 have hzl : z.length ≤ 1000 := by
  have := congrArg List.length hz
  have h2 := begs_len h h.length
  unfold splitR at this
  simp only [List.length_map] at this
  omega
 have hcom : comO h = if 500 < (keepT z).length then none else some ((keepT z).map (·.1)) := by
  obtain ⟨l, hsl⟩ : ∃ l, splitL h = some l := by
   unfold splitL
   cases hq : sp h h.length with
   | none => rw [hq] at hms; cases hms
   | some s => exact ⟨_, rfl⟩
  have e1 := splitL_ref hsl
  have e2 : comL l = (keepT z).map (·.1) := by rw [keepT_map, hz, ← e1]; rfl
  have e3 : (comL l).length = (keepT z).length := by rw [e2, List.length_map]
  unfold comO
  rw [hsl]
  show (if 500 < (comL l).length then none else some (comL l)) = _
  rw [e3, e2]
 dsimp only [zq8t]
 (refine Y_go 600 ?_; dsimp only [Y_k, zq4u, zq8o, zq6n, Nat.reduceBEq, zq6k, YK, zq8t, zq5j, zq2f, nth, zq2e, zq6l, zq9i, normF, zq6m, zq86, zq8a, zq87, zq89, zq9y, t33n9, T33n9, zq9r, zq9q, zq8p, zq6u, t33n8, T33n8, zq6q, zq9t, zq9v])
 refine loop_go (α := Nat × Option Addr × Nat) (fun q => q.1 ≤ z.length) (fun _ => ⟨W', W'.heap.size, [], 48, []⟩)
  (fun q => { F := [(5, .val (.slice B z.length bc)), (7, .own 0 0), (8, .val (.int .i64 q.1))], H := [.own 75 0 11 q.2.1 (keepT (z.take q.1)).length q.2.2 (cellsTs (keepT (z.take q.1)))] }) (fun q => z.length - q.1) (fun _ => rfl) ?start ?round
 case start =>
  intro a W rep
  exact ⟨(0, none, 0), Nat.zero_le _, (rep.adopt 7 75 11 rfl).le (by (simp only [setn, List.nil_append, List.cons_append, leF, leH_nil, leH_cons, leF_nil, lk, scp, scpL, scpO, resF, resH, resO, resV, resVL, nth, Nat.reduceBEq, Nat.reduceLT, decide_true, decide_false, List.length, List.length_cons, List.length_nil, Nat.reduceAdd, Bool.and_self, Bool.and_true, and_true, true_and, numF] <;> try simp)) (by (simp only [setn, List.nil_append, List.cons_append, leF, leH_nil, leH_cons, leF_nil, lk, scp, scpL, scpO, resF, resH, resO, resV, resVL, nth, Nat.reduceBEq, Nat.reduceLT, decide_true, decide_false, List.length, List.length_cons, List.length_nil, Nat.reduceAdd, Bool.and_self, Bool.and_true, and_true, true_and, numF] <;> try simp); exact ⟨rfl, rfl⟩)⟩
 case round =>
  rintro ⟨i, C, cc⟩ hi I again
  simp only at hi ⊢
  (refine Y_go 600 ?_; dsimp only [zq9y, t33n4, T33n4, zq9r, zq9q, Y_k, zq4u, zq8o, zq6n, Nat.reduceBEq, zq6l, zq6k, YK, zq8t, zq55, zq0r, zq50, zq04, zq92, zq9b, zq0i, zq9e, zq9i, normF, zq6m, zq86, zq87, zq8f, zq9s, zq6h, zq8x, YC, zq9p, t33n3, T33n3, zq9t, zq58, zq06, zq0w, zq5a, zq16, zq5c, zq1p, zq1d, List.nil_append, zq1b, zq18, Y_gk, zq6d, YR, zq69, zq1c, zq8p, zq6q, zq9h, zq4v, zq6p, zq0b, zq89, t33n1, T33n1, List.cons_append, zq1g, zq17, zq5h, List.map, zq6u, repL, zq23, Nat.reduceMul, zq7t, List.length_cons, List.length_nil, Nat.reduceAdd, zq8l, zq73, zq8m, zq77, zq7g, zq8k, zq0a, dropL, takeL, zq20, splice, setn, zq24, zq26, zq5l, zq2w, nth, zq09, zq08, zq2s, zq2r, zq2n, zq2j, zq2k, denL, den, zq2l, zq2h, zqa1, t33n2, T33n2, zq4w, zq0e, zqa2, zq8a, YS, zq6b, zq0c, zq6g, zq9u, popTo, zq6i, YP, t33n7, T33n7, zq0t, zq0q, zq9g, t33n5, T33n5, zq9x, t33n6, T33n6])
  refine ⟨fun hlt => ?_, fun hge => ?_⟩
  rotate_left
  ·have hie : i = z.length := by have := of_decide_eq_false hge; omega
   subst hie
   rw [List.take_of_length_le (Nat.le_refl _)]
   refine ⟨fun hb => ?_, fun hb => ?_⟩
   ·have hb := of_decide_eq_true hb
    exact ret_rule (vs := [.slice none 0 0, .int .i64 120]) r33 rfl rfl fun W hW => hR _ _ ⟨.inl ⟨by rw [hcom, if_pos (by omega)], rfl⟩, (ov.heap hW).fresh'⟩
   ·have hb := of_decide_eq_false hb
    exact ret_rule (vs := [.slice C (keepT z).length cc, .int .i64 0]) r33 rfl rfl fun W hW => hR _ _ ⟨.inr ⟨keepT z, C, cc, by rw [hcom, if_neg (by omega)], by omega, rfl, hW.rowAt' (i := 0) rfl, fun p hp => hat.keep hW.fresh' p (List.mem_filter.1 hp).1⟩, (ov.heap hW).fresh'⟩
  have hlt : i < z.length := by have := of_decide_eq_true hlt; omega
  have cl : ∀ k v, (cellsT z[i].1 z[i].2)[k]? = some v → CellAt ⟨W', W'.heap.size, [], 48, []⟩ B ((i : Int).toNat * 11 + k) v := by
   intro k v hk
   have := (List.getElem?_eq_some_iff.1 hk).1
   rw [Int.toNat_natCast]
   exact hzE.cell (by rw [cellsTs_get z hlt this]; exact hk)
  have hBs : B.isSome = true := hrow.isSome (j := i * 11) (by rw [cellsTs_len]; omega)
  have htk : z.take (i + 1) = z.take i ++ [z[i]] := by rw [List.take_add_one, List.getElem?_eq_getElem hlt]; rfl
  have hkl := keepT_len (z.take i)
  rw [List.length_take] at hkl
  have hb : 0 ≤ (i : Int) ∧ (i : Int) < (z.length : Int) ∧ B.isSome = true := ⟨by omega, by omega, hBs⟩
  have hadd : ArOk .add .i64 (i : Int) 1 ((i + 1 : Nat) : Int) := ArOk.to (by omega) (by omega) (by omega)
  generalize z[i] = px at cl htk
  obtain ⟨x, hx⟩ := px
  simp only at cl
  have hsn := keepT_snoc (z.take i) (x, hx)
  rw [← htk] at hsn
  have go : ∀ C2 cc2 (L : List (At × Hd)), keepT (z.take (i + 1)) = L → ∀ (a : Act) (W : World), Rep ⟨W', W'.heap.size, [], 48, []⟩ { F := [(5, .val (.slice B z.length bc)), (7, .own 0 0), (8, .val (.int .i64 ((i + 1 : Nat) : Int)))], H := [.own 75 0 11 C2 L.length cc2 (cellsTs L)] } a W → I a W := by
   intro C2 cc2 L hL a W rep
   refine again (i + 1, C2, cc2) hlt (by show z.length - (i + 1) < z.length - i; omega) a W ?_
   simp only [hL]; exact rep
  generalize keepT (z.take i) = L0 at *
  have hout : outB x = (!x.com || decide (x.point < 0)) := rfl
  have d0 := cl 0 _ rfl
  have d1 := cl 1 _ rfl
  have d2 := cl 2 _ rfl
  have d3 := cl 3 _ rfl
  have d4 := cl 4 _ rfl
  have d5 := cl 5 _ rfl
  have d6 := cl 6 _ rfl
  have d7 := cl 7 _ rfl
  have d8 := cl 8 _ rfl
  have d9 := cl 9 _ rfl
  have d10 := cl 10 _ rfl
  refine ⟨hb, hBs, (x.com : Bool), d9, fun h1 => ⟨hb, hBs, (x.point : Int), d5, fun h2 => ?_, fun h2 => ?_⟩, fun h1 => ?_⟩
  ·have h2 := of_decide_eq_true h2
   have hf : outB x = false := by rw [hout, h1, decide_eq_false (by omega)]; rfl
   refine ⟨hb, _, d0, _, d1, _, d2, _, d3, _, d4, _, d5, _, d6, _, _, _, d7, _, _, _, d8, _, d9, _, d10, fun g => ⟨by simp only [maxLen]; omega, fun C2 cc2 => ⟨_, hadd, lend_rule fun a W rep => go C2 cc2 (L0 ++ [(x, hx)]) (by rw [hsn]; simp only [hf]; rfl) a W ?_⟩⟩⟩
   have eL : cellsTs (L0 ++ [(x, hx)]) = cellsTs L0 ++ cellsT x hx := by simp [cellsTs]
   rw [eL, List.length_append]
   exact rep.res.le (by (simp only [setn, List.nil_append, List.cons_append, leF, leH_nil, leH_cons, leF_nil, lk, scp, scpL, scpO, resF, resH, resO, resV, resVL, nth, Nat.reduceBEq, Nat.reduceLT, decide_true, decide_false, List.length, List.length_cons, List.length_nil, Nat.reduceAdd, Bool.and_self, Bool.and_true, and_true, true_and, numF] <;> try simp)) (by simp only [cellsT]; (simp only [setn, List.nil_append, List.cons_append, leF, leH_nil, leH_cons, leF_nil, lk, scp, scpL, scpO, resF, resH, resO, resV, resVL, nth, Nat.reduceBEq, Nat.reduceLT, decide_true, decide_false, List.length, List.length_cons, List.length_nil, Nat.reduceAdd, Bool.and_self, Bool.and_true, and_true, true_and, numF] <;> try simp))
  ·have h2 := of_decide_eq_false h2
   have hf : outB x = true := by rw [hout, decide_eq_true (by omega), Bool.or_true]
   exact ⟨_, hadd, lend_rule fun a W rep => go C cc L0 (by rw [hsn]; simp [hf]) a W (rep.le (by (simp only [setn, List.nil_append, List.cons_append, leF, leH_nil, leH_cons, leF_nil, lk, scp, scpL, scpO, resF, resH, resO, resV, resVL, nth, Nat.reduceBEq, Nat.reduceLT, decide_true, decide_false, List.length, List.length_cons, List.length_nil, Nat.reduceAdd, Bool.and_self, Bool.and_true, and_true, true_and, numF] <;> try simp)) (by (simp only [setn, List.nil_append, List.cons_append, leF, leH_nil, leH_cons, leF_nil, lk, scp, scpL, scpO, resF, resH, resO, resV, resVL, nth, Nat.reduceBEq, Nat.reduceLT, decide_true, decide_false, List.length, List.length_cons, List.length_nil, Nat.reduceAdd, Bool.and_self, Bool.and_true, and_true, true_and, numF] <;> try simp)))⟩
  ·have hf : outB x = true := by rw [hout, h1]; rfl
   exact ⟨_, hadd, lend_rule fun a W rep => go C cc L0 (by rw [hsn]; simp [hf]) a W (rep.le (by (simp only [setn, List.nil_append, List.cons_append, leF, leH_nil, leH_cons, leF_nil, lk, scp, scpL, scpO, resF, resH, resO, resV, resVL, nth, Nat.reduceBEq, Nat.reduceLT, decide_true, decide_false, List.length, List.length_cons, List.length_nil, Nat.reduceAdd, Bool.and_self, Bool.and_true, and_true, true_and, numF] <;> try simp)) (by (simp only [setn, List.nil_append, List.cons_append, leF, leH_nil, leH_cons, leF_nil, lk, scp, scpL, scpO, resF, resH, resO, resV, resVL, nth, Nat.reduceBEq, Nat.reduceLT, decide_true, decide_false, List.length, List.length_cons, List.length_nil, Nat.reduceAdd, Bool.and_self, Bool.and_true, and_true, true_and, numF] <;> try simp)))⟩
end Go.Proofs.Ytbkpiljencaoeaa
