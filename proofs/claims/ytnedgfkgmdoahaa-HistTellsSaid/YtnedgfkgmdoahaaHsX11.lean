/- shuntlaw12.HistTells: it answers true. -/
import Derived.Test.YtnedgfkgmdoahaaHsX10
import Derived.Test.YtnedgfkgmdoahaaHsW9
import Derived.Test.YtnedgfkgmdoahaaHsCodeT
set_option linter.unusedSimpArgs false
set_option linter.unusedVariables false
set_option linter.unnecessarySimpa false
namespace Go.Proofs.Ytnedgfkgmdoahaa
open Go Go.Sx Go.Hs
set_option maxRecDepth 100000
theorem cellsTs_at {y z : List (At × Hd)} (h : cellsTs y = cellsTs z) {i : Nat} {p q : At × Hd} (hp : y[i]? = some p) (hq : z[i]? = some q) : cellsT p.1 p.2 = cellsT q.1 q.2 := by
 obtain ⟨h1, rfl⟩ := List.getElem?_eq_some_iff.1 hp
 obtain ⟨h2, rfl⟩ := List.getElem?_eq_some_iff.1 hq
 apply List.ext_getElem?
 intro k
 by_cases hk : k < 11
 ·rw [← cellsTs_get y h1 hk, ← cellsTs_get z h2 hk, h]
 ·rw [List.getElem?_eq_none (by simp [cellsT]; omega), List.getElem?_eq_none (by simp [cellsT]; omega)]
theorem cellsTs_set {y : List (At × Hd)} {i : Nat} {x x' : At} {hd : Hd} (hi : y[i]? = some (x, hd)) (he : cellsT x' hd = cellsT x hd) : cellsTs (y.set i (x', hd)) = cellsTs y := by
 unfold cellsTs
 rw [List.flatMap_def, List.flatMap_def, List.map_set]
 congr 1
 apply List.ext_getElem?
 intro j
 rw [List.getElem?_set, List.getElem?_map]
 by_cases e : i = j
 ·subst e
  have := (List.getElem?_eq_some_iff.1 hi).1
  rw [if_pos rfl, hi]; simp [this, he]
 ·rw [if_neg e]
theorem law9 (A : Option Addr) (c : Nat) (h : List Ev) (core : Int) (w : World) (hA : RowAt w A (cellsE h)) :
  CallsV Try.prog 9 [.slice A h.length c, .int .i64 core] w fun v w' => v = .bool true ∧ Fresh w w' := by
 refine calls_go (keep := K9) (nt := 176) (svs := [.val (.slice A h.length c), .val (.int .i64 core)]) Try.func9 x9 n9 (by simp) (by simp [IsL, Is]) fun R hR => ?_
 (refine Y_go 600 ?_; dsimp only [X9, numF, Nat.reduceAdd, zq9r, zq9q, Y_k, zq4u, zq8p, zq6p, YK, zq8t, zq9i, normF, zq6n, Nat.reduceBEq, zq6l, zq6k, zq6m, zq86, zq8a, zq87, zq9y, t9n26, T9n26, zq8o, zq55, zq0r, zq50, zq6q, zq04, zq92, zq9b, zq0i, zq9g, zq9s, zq6h, zq8x, YC, t9n0, T9n0, zq6o, zq89, zq9x, zq9p, t9n25, T9n25, zq5h, List.map, repL, zq24, zq26, List.length_nil, List.nil_append, zq5l, zq2x, nth, zq2u, Nat.reduceMul, denL, zq2t, zq2r, zq2o, zq2i, List.length_cons, setn, List.cons_append, zq8f, t9n24, T9n24, zq9j])
 refine ⟨fun _ => ret_rule (vs := [.bool true]) r9 rfl rfl fun W hW => hR _ _ ⟨rfl, hW.fresh'⟩, fun hle => ?_⟩
 have hle : h.length ≤ 200 := by have := of_decide_eq_false hle; omega
 refine fun g0 => ⟨cellsE h, by rw [← cellsE_len]; exact hA.rd (evs_one h), ⟨by simp only [maxLen]; omega, by omega⟩, fun A1 c1 => ?_⟩
 rw [Nat.zero_add]
 have hsh : ∀ e ∈ [SO.gone g0, .own 65 0 9 A1 h.length c1 (cellsE h)], scpO 0 e = true := fun e he => by
  simp only [List.mem_cons, List.not_mem_nil, or_false] at he
  rcases he with rfl | rfl <;> rfl
 refine G.le (E' := ⟨w, w.heap.size, [], 176, []⟩) rfl (s' := { F := [(29, .val (.slice A1 h.length c1)), (0, .val (.slice A h.length c)), (1, .val (.int .i64 core)), (5, .val (.slice A1 h.length c1))], H := [] ++ [.gone g0, .own 65 0 9 A1 h.length c1 (cellsE h)] }) (fun a W rep => ((rep.plain 29 (i := 1) rfl rfl).plain 5 (i := 1) rfl rfl).le (by (simp only [setn, List.nil_append, List.cons_append, leF, leH_nil, leH_cons, leF_nil, lk, scp, scpL, scpO, resF, resH, resO, resV, resVL, nth, Nat.reduceBEq, Nat.reduceLT, decide_true, decide_false, List.length, List.length_cons, List.length_nil, Nat.reduceAdd, Bool.and_self, Bool.and_true, and_true, true_and, numF] <;> try simp)) (by (simp only [setn, List.nil_append, List.cons_append, leF, leH_nil, leH_cons, leF_nil, lk, scp, scpL, scpO, resF, resH, resO, resV, resVL, nth, Nat.reduceBEq, Nat.reduceLT, decide_true, decide_false, List.length, List.length_cons, List.length_nil, Nat.reduceAdd, Bool.and_self, Bool.and_true, and_true, true_and, numF] <;> try simp))) ?_
 refine G.cut (H1 := []) (r := [.gone g0, .own 65 0 9 A1 h.length c1 (cellsE h)]) rfl (by (simp only [setn, List.nil_append, List.cons_append, leF, leH_nil, leH_cons, leF_nil, lk, scp, scpL, scpO, resF, resH, resO, resV, resVL, nth, Nat.reduceBEq, Nat.reduceLT, decide_true, decide_false, List.length, List.length_cons, List.length_nil, Nat.reduceAdd, Bool.and_self, Bool.and_true, and_true, true_and, numF] <;> try simp)) fun W1 hW1 hov1 => ?_
 have hO : RowAt W1 A1 (cellsE h) := hW1.rowAt' (i := 1) (t := 65) (ver := 0) (sz := 9) (n := h.length) (c := c1) rfl
 have hA1 : RowAt W1 A (cellsE h) := ((rowE0 hA 176 []).over hov1).at (heapOk_nil (w := W1) (N := W1.heap.size) (Nat.le_refl _) (fps []) 176 [])
 have fr1 : ∀ {H : List SO} {W2 : World}, HeapOk ⟨W1, W1.heap.size, [], 176, []⟩ H W2 → Fresh w W2 := fun hh => (hov1.heap hh).fresh'
 have hf1 : Fresh w W1 := (hov1.heap (heapOk_nil (w := W1) (N := W1.heap.size) (Nat.le_refl _) (fps []) 176 [])).fresh'
 clear hW1 hsh
 show G _ ⟨W1, W1.heap.size, [], 176, []⟩ _ _
 have done : ∀ s, denAll s.H s.F [4] = some [.bool true] → RetG (cxOf Try.prog Try.f9 K9 T9 R) ⟨W1, W1.heap.size, [], 176, []⟩ s := fun s hs =>
  ret_rule (vs := [.bool true]) r9 rfl hs fun W hW => hR _ _ ⟨rfl, fr1 hW⟩
 have hms : mayL h = (splitL h).isSome := by rw [mayL_sp]; unfold splitL; cases sp h h.length <;> rfl
 cases hs : splitL h with
 | none =>
  have hm : mayL h = false := by rw [hms, hs]; rfl
  refine call_val (R := fun v => v = .tuple #[.slice none 0 0, .int .i64 120]) (vs := [.slice A1 h.length c1]) rfl (fun W hW => (split31 A1 c1 h W (hO.keep hW.fresh') (by omega)).mono ?_) fun v hv => ⟨.tup [.val (.slice none 0 0), .val (.int .i64 120)], by rw [hv]; simp [Is, IsL], ?_⟩
  ·rintro v W' (⟨_, h2, h3⟩ | ⟨z, _, _, h1, _⟩)
   ·exact ⟨h2, h3⟩
   ·rw [hs] at h1; cases h1
  (refine Y_go 600 ?_; dsimp only [zq8t, Y_k, zq4u, zq8o, zq6n, Nat.reduceBEq, zq6k, YK, zq5j, zq2f, nth, zq2e, zq6l, zq9i, normF, zq6m, zq86, zq87, zq9y, t9n23, T9n23, zq9r, zq9q, zq9j])
  refine call_val (R := fun v => v = .tuple #[.int .i64 0, .bool false, .int .i64 120]) (vs := [.slice A1 h.length c1]) rfl (fun W hW => (races32 A1 c1 h W (hO.keep hW.fresh') (by omega)).mono ?_) fun v hv => ⟨.tup [.val (.int .i64 0), .bf, .val (.int .i64 120)], by rw [hv]; simp [Is, IsL], ?_⟩
  ·rintro v W' ⟨⟨_, h2⟩ | ⟨l, h1, _⟩, h3⟩
   ·exact ⟨h2, h3⟩
   ·rw [hs] at h1; cases h1
  (refine Y_go 600 ?_; dsimp only [zq8t, Y_k, zq4u, zq8o, zq6n, Nat.reduceBEq, zq6k, YK, zq5j, zq2f, nth, zq2e, zq6l, zq9i, normF, zq6m, zq86, zq87, zq8a, zq9y, t9n22, T9n22, zq9r, zq9q, zq9j])
  refine call_val (R := fun v => v = .tuple #[.agg (talV tal0).toArray, .int .i64 120]) (vs := [.slice A1 h.length c1, .int .i64 core]) rfl (fun W hW => (tally33 A1 c1 h core W (hO.keep hW.fresh') (by omega)).mono ?_) fun v hv => ⟨.tup [.agg [.val (.int .i64 0), .val (.int .i64 0), .val (.int .i64 0), .val (.int .i64 0), .val (.int .i64 0), .val (.int .i64 0), .val (.int .i64 0), .val (.int .i64 0), .val (.int .i64 0), .val (.int .i64 0), .val (.int .i64 0), .val (.int .i64 0), .val (.int .i64 0), .val (.int .i64 0), .val (.int .i64 0)], .val (.int .i64 120)], by rw [hv]; simp [Is, IsL, talV, tal0], ?_⟩
  ·rintro v W' ⟨⟨_, h2⟩ | ⟨l, h1, _⟩, h3⟩
   ·exact ⟨h2, h3⟩
   ·rw [hs] at h1; cases h1
  (refine Y_go 600 ?_; dsimp only [zq8t, Y_k, zq4u, zq8o, zq6n, Nat.reduceBEq, zq6k, YK, zq5j, zq2f, nth, zq2e, zq6l, zq5e, List.length_nil, List.map, zq6q, List.nil_append, zq5d, zq7t, List.length_cons, Nat.reduceAdd, zq8l, zq73, zq8m, zq8k, zq0a, zq1x, zq1t, dropL, takeL, zq1r, splice, setn, zq8s, zq9i, normF, zq6m, zq86, zq87, zq8c, zq8a, zq9y, t9n21, T9n21, zq9r, zq9q, zq9j])
  refine fun g1 => call_val (R := fun v => v = .bool (mayL h)) (vs := [.slice A h.length c]) rfl (fun W hW => may34 A c h W (hA1.keep hW.fresh') (by omega)) fun v hv => ⟨.bf, by rw [hv, hm]; simp [Is], ?_⟩
  (refine Y_go 600 ?_; dsimp only [zq8t, Y_k, zq4u, zq8o, zq6n, Nat.reduceBEq, zq6k, YK, zq9i, normF, zq6l, zq6m, zq86, zq8a, zq87, zq8c, zq9y, t9n20, T9n20, zq9r, zq9q, zq53, zq0n, zq89, zq9s, zq6f, YC, t9n1, T9n1, zq50, zq8p, zq6q, zq04, zq92, zq9b, zq0i, zq9c, Y_gk, zq6d, YR, zq69, zq4v, zq6p, zq0b, zq55, zq0r, zq5c, zq1o, nth, zq1k, List.length_cons, List.length_nil, Nat.reduceAdd, dropL, takeL, zq19, zq17, zq5g, List.map, zq22, zq25, zq5s, zq3o, eqSV, zq3q, zq9x, YS, zq6b, zq0c])
  repeat' first
   | (refine ⟨fun q => ?_, fun q => ?_⟩ <;> first | (exfalso; revert q; decide) | skip)
   | exact done _ rfl
   | fail
 | some l =>
  have hm : mayL h = true := by rw [hms, hs]; rfl
  have hlr := splitL_ref hs
  have hrace := race_eq hs
  have hlens : ∀ x ∈ l, x.loads.length ≤ 1000 ∧ x.stores.length ≤ 1000 := by
   intro x hx
   unfold splitL at hs
   cases hq : sp h h.length with
   | none => rw [hq] at hs; cases hs
   | some s0 =>
    rw [hq] at hs; injection hs with hs
    have := sp_lens hq x (by rw [show s0.out = l from hs]; exact hx)
    omega
  have hll : l.length ≤ 1000 := by
   have := congrArg List.length hlr
   have h2 := begs_len h h.length
   unfold splitR at this
   simp only [List.length_map] at this
   omega
  refine call_rule (vs := [.slice A1 h.length c1]) rfl (R := fun W v w' => ∃ (z : List (At × Hd)) (B : Option Addr) (bc : Nat), z.map (·.1) = l ∧ v = .tuple #[.slice B z.length bc, .int .i64 0] ∧ HeapOk ⟨W, W.heap.size, [], 67, []⟩ ([.own 90 0 11 B z.length bc (cellsTs z)] ++ famQ 124 92 z) w') (fun W hW => (split31 A1 c1 h W (hO.keep hW.fresh') (by omega)).mono ?_) fun W v W' hW ⟨z, B, bc, hz, hv, hh⟩ => ?_
  ·rintro v W' (⟨h1, _⟩ | ⟨z, B, bc, h1, h2, h3⟩)
   ·rw [hs] at h1; cases h1
   ·rw [hs] at h1; injection h1 with h1; exact ⟨z, B, bc, h1.symm, h2, h3⟩
  refine ⟨.tup [.val (.slice B z.length bc), .val (.int .i64 0)], [.own 90 0 11 B z.length bc (cellsTs z)] ++ famQ 124 92 z, by rw [hv]; simp [Is, IsL], HExt.nilTo _, (HeapOk.over0 hW 67 [] rfl).heap hh, ?_⟩
  clear hh hv hW
  have hzl : z.length ≤ 1000 := by rw [← hz, List.length_map] at hll; exact hll
  refine G.cut (H1 := []) (r := [.own 90 0 11 B z.length bc (cellsTs z)] ++ famQ 124 92 z) rfl ?_ fun W2 hW2 hov2 => ?_
  ·simp only [putF]; (simp only [setn, List.nil_append, List.cons_append, leF, leH_nil, leH_cons, leF_nil, lk, scp, scpL, scpO, resF, resH, resO, resV, resVL, nth, Nat.reduceBEq, Nat.reduceLT, decide_true, decide_false, List.length, List.length_cons, List.length_nil, Nat.reduceAdd, Bool.and_self, Bool.and_true, and_true, true_and, numF] <;> try simp)
  have hash : ∀ e ∈ [SO.own 90 0 11 B z.length bc (cellsTs z)] ++ famQ 124 92 z, scpO 0 e = true := fun e he => by
   rcases List.mem_append.1 he with h1 | h1
   ·simp only [List.mem_singleton] at h1; subst h1; rfl
   ·exact famQ_shut _ _ _ e h1
  have hBA : AtsAt W2 B z := by
   refine ⟨hW2.rowAt' (i := 0) (t := 90) (ver := 0) (sz := 11) (n := z.length) (c := bc) rfl, fun p hp => ⟨?_, ?_⟩⟩
   ·have hm := List.mem_append_right [SO.own 90 0 11 B z.length bc (cellsTs z)] (famQ_mem 124 92 hp (.own 92 0 2 p.2.lA p.1.loads.length p.2.lc (cellsPr p.1.loads)) (by simp [quad]))
    obtain ⟨i, hi⟩ := List.getElem?_of_mem hm
    exact hW2.rowAt' (i := i) (by rw [nth_eq]; exact hi)
   ·have hm := List.mem_append_right [SO.own 90 0 11 B z.length bc (cellsTs z)] (famQ_mem 124 92 hp (.own 92 0 2 p.2.sA p.1.stores.length p.2.sc (cellsPr p.1.stores)) (by simp [quad]))
    obtain ⟨i, hi⟩ := List.getElem?_of_mem hm
    exact hW2.rowAt' (i := i) (by rw [nth_eq]; exact hi)
  have f12 : Fresh W1 W2 := by
   have := (hov2.heap (heapOk_nil (w := W2) (N := W2.heap.size) (Nat.le_refl _) (fps []) 176 [])).fresh'
   exact this
  have hO2 := hO.keep f12
  have hA2 := hA1.keep f12
  show G _ ⟨W2, W2.heap.size, [], 176, []⟩ _ _
  simp only [putF]
  (refine Y_go 600 ?_; dsimp only [Y_k, zq4u, zq8o, zq6n, Nat.reduceBEq, zq6k, YK, zq8t, zq5j, zq2f, nth, zq2e, zq6l, zq9i, normF, zq6m, zq86, zq87, zq9y, t9n23, T9n23, zq9r, zq9q, zq9j])
  obtain ⟨t0, t1, t2, t3, t4, t5, t6, t7, t8, t9, t10, t11, t12, t13, t14, htl⟩ : ∃ t0 t1 t2 t3 t4 t5 t6 t7 t8 t9 t10 t11 t12 t13 t14, talL core l = [t0, t1, t2, t3, t4, t5, t6, t7, t8, t9, t10, t11, t12, t13, t14] := by
   have h15 := (talTo_ok core l l.length (Nat.le_refl _)).1
   rw [List.take_length] at h15
   generalize talL core l = t at h15
   match t, h15 with
   | [t0, t1, t2, t3, t4, t5, t6, t7, t8, t9, t10, t11, t12, t13, t14], _ => exact ⟨t0, t1, t2, t3, t4, t5, t6, t7, t8, t9, t10, t11, t12, t13, t14, rfl⟩
  generalize hfr : frst (racePH h l) h.length = fr at hrace
  refine call_val (R := fun v => v = .tuple #[.int .i64 (fr.getD 0 : Nat), .bool fr.isSome, .int .i64 0]) (vs := [.slice A1 h.length c1]) rfl (fun W hW => (races32 A1 c1 h W (hO2.keep hW.fresh') (by omega)).mono ?_) fun v hv => ⟨.tup [.val (.int .i64 (fr.getD 0 : Nat)), .val (.bool fr.isSome), .val (.int .i64 0)], by rw [hv]; simp [Is, IsL], ?_⟩
  ·rintro v W' ⟨⟨h1, _⟩ | ⟨l', h1, h2⟩, h3⟩
   ·rw [hs] at h1; cases h1
   ·rw [hs] at h1; injection h1 with h1; subst h1; rw [hfr] at h2; exact ⟨h2, h3⟩
  (refine Y_go 600 ?_; dsimp only [zq8t, Y_k, zq4u, zq8o, zq6n, Nat.reduceBEq, zq6k, YK, zq5j, zq2f, nth, zq2e, zq6l, zq9i, normF, zq6m, zq86, zq87, zq9y, t9n22, T9n22, zq9r, zq9q, zq9j])
  refine call_val (R := fun v => v = .tuple #[.agg (talV [t0, t1, t2, t3, t4, t5, t6, t7, t8, t9, t10, t11, t12, t13, t14]).toArray, .int .i64 0]) (vs := [.slice A1 h.length c1, .int .i64 core]) rfl (fun W hW => (tally33 A1 c1 h core W (hO2.keep hW.fresh') (by omega)).mono ?_) fun v hv => ⟨.tup [.agg [.val (.int .i64 t0), .val (.int .i64 t1), .val (.int .i64 t2), .val (.int .i64 t3), .val (.int .i64 t4), .val (.int .i64 t5), .val (.int .i64 t6), .val (.int .i64 t7), .val (.int .i64 t8), .val (.int .i64 t9), .val (.int .i64 t10), .val (.int .i64 t11), .val (.int .i64 t12), .val (.int .i64 t13), .val (.int .i64 t14)], .val (.int .i64 0)], by rw [hv]; simp [Is, IsL, talV], ?_⟩
  ·rintro v W' ⟨⟨h1, _⟩ | ⟨l', h1, h2⟩, h3⟩
   ·rw [hs] at h1; cases h1
   ·rw [hs] at h1; injection h1 with h1; subst h1; rw [htl] at h2; exact ⟨h2, h3⟩
  (refine Y_go 600 ?_; dsimp only [zq8t, Y_k, zq4u, zq8o, zq6n, Nat.reduceBEq, zq6k, YK, zq5j, zq2f, nth, zq2e, zq6l, zq5e, List.length_nil, List.map, zq6q, List.nil_append, zq5d, zq7t, List.length_cons, Nat.reduceAdd, zq8l, zq73, zq8m, zq8k, zq0a, zq1x, zq1t, dropL, takeL, zq1r, splice, setn, zq8s, zq9i, normF, zq6m, zq86, zq87, zq8c, zq9y, t9n21, T9n21, zq9r, zq9q, zq9j])
  refine fun g1 => call_val (R := fun v => v = .bool (mayL h)) (vs := [.slice A h.length c]) rfl (fun W hW => may34 A c h W (hA2.keep hW.fresh') (by omega)) fun v hv => ⟨.bt, by rw [hv, hm]; simp [Is], ?_⟩
  (refine Y_go 600 ?_; dsimp only [zq8t, Y_k, zq4u, zq8o, zq6n, Nat.reduceBEq, zq6k, YK, zq9i, normF, zq6l, zq6m, zq86, zq89, zq87, zq8c, zq9y, t9n20, T9n20, zq9r, zq9q, zq53, zq0m, zq8a, zq9s, zq6g, YC, zq9p, t9n19, T9n19, zq9j])
  refine call_base (vs := [.slice A h.length c]) rfl (R := fun W v w' => ∃ (z2 : List (At × Hd)) (B2 D2 : Option Addr) (bc2 dc2 : Nat), z2.map (·.1) = splitR h ∧ v = .tuple #[.slice B2 z2.length bc2, .slice D2 z2.length dc2] ∧ World.ownsB w' W.heap.size 90 11 (.slice B2 z2.length bc2) z2.length (cellsTs z2) ∧ AttAt w' z2 ∧ Fresh W w' ∧ AttNew W.heap.size z2) (fun W hW => (refsplit35 A c h W (hA2.keep hW.fresh') (by omega) hm).mono fun v w' ⟨z2, B2, D2, bc2, dc2, h1, h2, h3, h4, h5, h6, h7⟩ => ⟨z2, B2, D2, bc2, dc2, h1, h2, h3, h5, h6, h7⟩) (fun _ _ _ hr => by obtain ⟨_, _, _, _, _, _, _, _, _, hf, _⟩ := hr; exact hf) fun W3 v W4 hW3 hr ov3 => ?_
  obtain ⟨z2, B2, D2, bc2, dc2, hz2, hv, ho2, hat2, hf3, hnw2⟩ := hr
  have hst3 : ∀ g ∈ fps [SO.cells g1 79 [.val (.int .i64 t0), .val (.int .i64 t1), .val (.int .i64 t2), .val (.int .i64 t3), .val (.int .i64 t4), .val (.int .i64 t5), .val (.int .i64 t6), .val (.int .i64 t7), .val (.int .i64 t8), .val (.int .i64 t9), .val (.int .i64 t10), .val (.int .i64 t11), .val (.int .i64 t12), .val (.int .i64 t13), .val (.int .i64 t14)]], g < W3.heap.size := fun g hg => hW3.fps_lt hg
  have h23 : W2.heap.size ≤ W3.heap.size := hW3.fresh'.size
  simp only [putF] at ov3 ⊢
  generalize fps [SO.cells g1 79 [.val (.int .i64 t0), .val (.int .i64 t1), .val (.int .i64 t2), .val (.int .i64 t3), .val (.int .i64 t4), .val (.int .i64 t5), .val (.int .i64 t6), .val (.int .i64 t7), .val (.int .i64 t8), .val (.int .i64 t9), .val (.int .i64 t10), .val (.int .i64 t11), .val (.int .i64 t12), .val (.int .i64 t13), .val (.int .i64 t14)]] = st3 at hst3 ov3 ⊢
  have hr2 : RowE ⟨W4, W4.heap.size, st3, 176, []⟩ B2 (cellsTs z2) := ownsB_rowE ho2 hst3 176 []
  have ha2 : AttE ⟨W4, W4.heap.size, st3, 176, []⟩ z2 := fun p hp => ⟨RowAt.toNew (hat2 p hp).1 hst3 (hnw2 p hp).1 176 [], RowAt.toNew (hat2 p hp).2 hst3 (hnw2 p hp).2 176 []⟩
  have hlz2 : z2.map (·.1) = l := by rw [hz2, ← hlr]
  have hz2l : z2.length ≤ 1000 := by rw [← hlz2, List.length_map] at hll; exact hll
  have hp2 : ∀ p ∈ z2, p.1.loads.length ≤ 1000 ∧ p.1.stores.length ≤ 1000 := fun p hp => hlens p.1 (by rw [← hlz2]; exact List.mem_map_of_mem (f := fun x : At × Hd => x.1) hp)
  have fr2 : ∀ {H : List SO} {W : World}, HeapOk ⟨W4, W4.heap.size, st3, 176, []⟩ H W → Fresh W2 W := fun hh => (ov3.heap hh).fresh'
  have hsame : ∀ {H : List SO} {W : World}, HeapOk ⟨W4, W4.heap.size, st3, 176, []⟩ H W → CallsV Try.prog 38 [.slice B z.length bc, .slice B2 z2.length bc2] W fun v w' => v = .bool true ∧ Fresh W w' := fun {H} {W} hW => same38 B B2 bc bc2 z z2 W (hBA.keep (fr2 hW)) ⟨hr2.at hW, ha2.at hW⟩ (by rw [hz, hlz2]) hz2l hp2
  refine ⟨.tup [.val (.slice B2 z2.length bc2), .val (.slice D2 z2.length dc2)], by rw [hv]; simp [Is, IsL], ?_⟩
  (refine Y_go 600 ?_; dsimp only [Y_k, zq4u, zq8o, zq6n, Nat.reduceBEq, zq6k, YK, zq8t, zq5j, zq2f, nth, zq2e, zq6l, zq9i, normF, zq6m, zq86, zq8a, zq87, zq89, zq8c, zq9y, t9n18, T9n18, zq9r, zq9q, zq9j])
  refine call_val (R := fun v => v = .tuple #[.int .i64 (fr.getD 0 : Nat), .bool fr.isSome]) (vs := [.slice A h.length c]) rfl (fun W hW => (refraces36 A c h W (hA2.keep (fr2 hW)) (by omega) hm).mono fun v w' hq => ⟨by rw [hq.1, ← hrace], hq.2⟩) fun v hv => ⟨.tup [.val (.int .i64 (fr.getD 0 : Nat)), .val (.bool fr.isSome)], by rw [hv]; simp [Is, IsL], ?_⟩
  (refine Y_go 600 ?_; dsimp only [zq8t, Y_k, zq4u, zq8o, zq6n, Nat.reduceBEq, zq6k, YK, zq5j, zq2f, nth, zq2e, zq6l, zq9i, normF, zq6m, zq86, zq8a, zq87, zq89, zq8c, zq9y, t9n17, T9n17, zq9r, zq9q, zq9j])
  refine call_val (R := fun v => v = .agg (talV [t0, t1, t2, t3, t4, t5, t6, t7, t8, t9, t10, t11, t12, t13, t14]).toArray) (vs := [.slice A h.length c, .int .i64 core]) rfl (fun W hW => (reftally37 A c h core W (hA2.keep (fr2 hW)) (by omega) hm).mono fun v w' hq => ⟨by rw [hq.1, ← hlr, htl], hq.2⟩) fun v hv => ⟨.agg [.val (.int .i64 t0), .val (.int .i64 t1), .val (.int .i64 t2), .val (.int .i64 t3), .val (.int .i64 t4), .val (.int .i64 t5), .val (.int .i64 t6), .val (.int .i64 t7), .val (.int .i64 t8), .val (.int .i64 t9), .val (.int .i64 t10), .val (.int .i64 t11), .val (.int .i64 t12), .val (.int .i64 t13), .val (.int .i64 t14)], by rw [hv]; simp [Is, IsL, talV], ?_⟩
  (refine Y_go 600 ?_; dsimp only [zq8t, Y_k, zq5e, List.length_cons, List.length_nil, Nat.reduceAdd, List.map, zq6q, List.cons_append, List.nil_append, YK, zq5d, zq8o, zq6n, Nat.reduceBEq, zq6k, zq6l, zq7t, zq8l, zq73, zq8m, zq8k, zq0a, zq1x, nth, zq1t, dropL, takeL, zq1r, splice, setn, zq8s, zq9i, normF, zq6m, zq86, zq8a, zq8c, zq87, zq89, zq9y, t9n16, T9n16, zq9r, zq9q, zq4u, zq50, zq8p, zq04, zq92, zq9b, zq0i, zq9d, Y_gk, zq6e, YS, zq6a, zq4v, zq6o, zq0b, zq9l, zq9s, zq6f, YC, t9n2, T9n2, zq6p, zq9x, YR, zq6c, zq0c, YG])
  intro g2
  repeat' first
   | (refine ⟨fun q => absurd q (by decide), fun _ => ?_⟩)
   | fail
  refine call_val (R := fun v => v = .bool true) (vs := [.slice B z.length bc, .slice B2 z2.length bc2]) rfl (fun W hW => hsame hW) fun v hv => ⟨.bt, by rw [hv]; simp [Is], ?_⟩
  (refine Y_go 600 ?_; dsimp only [zq8t, Y_gk, zq6n, Nat.reduceBEq, zq6l, zq6k, zq6c, YR, zq53, zq8o, zq0m, YK, Y_k, zq4v, zq8p, zq6o, zq0c, zq4u, zq50, zq04, zq92, zq9b, zq0i, zq9d, zq6e, YS, zq6a, zq0b, zq9i, normF, zq6m, zq86, zq89, zq8a, zq8c, zq87, zq9s, zq6f, YC, zq9y, t9n2, T9n2, zq9r, zq9q, zq6p, zq9x, zq51, zq8w, zq0j, zq5c, zq1o, nth, zq1k, List.length_cons, List.length_nil, Nat.reduceAdd, dropL, takeL, zq19, zq17, zq5s, zq3o, eqSV, zq3p, zq6h, zq8x, zq9p, t9n15, T9n15, zq6q, zq9t, zq9v])
  repeat' first
   | (refine ⟨fun q => absurd q (by simp), fun _ => ?_⟩)
   | fail
  refine fun a W5 rep => ?_
  have r0 : Rep ⟨W4, W4.heap.size, st3, 176, []⟩ { F := [(0, .val (.slice A h.length c)), (5, .val (.slice A1 h.length c1)), (6, .val (.slice B z.length bc)), (14, .val (.slice B2 z2.length bc2)), (19, .val (.int .i64 0))], H := [] } a W5 := rep.le (by (simp only [setn, List.nil_append, List.cons_append, leF, leH_nil, leH_cons, leF_nil, lk, scp, scpL, scpO, resF, resH, resO, resV, resVL, nth, Nat.reduceBEq, Nat.reduceLT, decide_true, decide_false, List.length, List.length_cons, List.length_nil, Nat.reduceAdd, Bool.and_self, Bool.and_true, and_true, true_and, numF] <;> try simp)) (by (simp only [setn, List.nil_append, List.cons_append, leF, leH_nil, leH_cons, leF_nil, lk, scp, scpL, scpO, resF, resH, resO, resV, resVL, nth, Nat.reduceBEq, Nat.reduceLT, decide_true, decide_false, List.length, List.length_cons, List.length_nil, Nat.reduceAdd, Bool.and_self, Bool.and_true, and_true, true_and, numF] <;> try simp))
  have hW5 := r0.heap
  have r1 := Rep.back (E := ⟨W1, W1.heap.size, [], 176, []⟩) hW2 hash r0 (nt := 176) (mk := []) ov3 rfl rfl
  have f5 : Fresh W1 W5 := r1.heap.fresh'
  have hst5lt : ∀ g ∈ fps ([] ++ ([SO.own 90 0 11 B z.length bc (cellsTs z)] ++ famQ 124 92 z)), g < W3.heap.size := fun g hg => Nat.lt_of_lt_of_le (hW2.fps_lt hg) h23
  have hst5ge : ∀ g ∈ fps ([] ++ ([SO.own 90 0 11 B z.length bc (cellsTs z)] ++ famQ 124 92 z)), W1.heap.size ≤ g := fun g hg => by
   obtain ⟨i, e, hi, hf⟩ := fps_mem.1 hg
   exact r1.heap.newer hi hf
  have r2 := r1.rebase
  have ov5 : Over ⟨W1, W1.heap.size, [], 176, []⟩ ⟨W5, W5.heap.size, fps ([] ++ ([SO.own 90 0 11 B z.length bc (cellsTs z)] ++ famQ 124 92 z)), 176, []⟩ := (r1.heap.rebase 176 []).2
  have low : ∀ {C : Option Addr} {xs : List Value}, RowAt W1 C xs → RowE ⟨W5, W5.heap.size, fps ([] ++ ([SO.own 90 0 11 B z.length bc (cellsTs z)] ++ famQ 124 92 z)), 176, []⟩ C xs := fun {C} {xs} hC => (rowE0 hC 176 []).over ov5
  have hO5 := low hO
  have hA5 := low hA1
  have hB5 : RowE ⟨W5, W5.heap.size, fps ([] ++ ([SO.own 90 0 11 B z.length bc (cellsTs z)] ++ famQ 124 92 z)), 176, []⟩ B2 (cellsTs z2) := RowAt.toNew (hr2.at hW5) hst5lt (ownsB_new ho2) 176 []
  have hat5 : AttE ⟨W5, W5.heap.size, fps ([] ++ ([SO.own 90 0 11 B z.length bc (cellsTs z)] ++ famQ 124 92 z)), 176, []⟩ z2 := fun p hp => ⟨RowAt.toNew ((ha2 p hp).1.at hW5) hst5lt (hnw2 p hp).1 176 [], RowAt.toNew ((ha2 p hp).2.at hW5) hst5lt (hnw2 p hp).2 176 []⟩
  clear low hst5lt hst5ge rep r0 hW5 hsame
  generalize fps ([] ++ ([SO.own 90 0 11 B z.length bc (cellsTs z)] ++ famQ 124 92 z)) = st5 at *
  revert r2
  refine fun r2 => (?_ : G (cxOf Try.prog Try.f9 K9 T9 R) ⟨W5, W5.heap.size, st5, 176, []⟩ [.code (.loop (.ref 12)), .blk 0, .code (.ref 14)] { F := [(0, .val (.slice A h.length c)), (5, .val (.slice A1 h.length c1)), (6, .own 0 0), (14, .val (.slice B2 z2.length bc2)), (19, .val (.int .i64 0))], H := [.own 90 0 11 B z.length bc (cellsTs z)] ++ famQ 124 92 z }) a W5 ((r2.fold 6 (i := 0) rfl rfl).few 1 (by (simp only [setn, List.nil_append, List.cons_append, leF, leH_nil, leH_cons, leF_nil, lk, scp, scpL, scpO, resF, resH, resO, resV, resVL, nth, Nat.reduceBEq, Nat.reduceLT, decide_true, decide_false, List.length, List.length_cons, List.length_nil, Nat.reduceAdd, Bool.and_self, Bool.and_true, and_true, true_and, numF] <;> try simp)))
  have fr5 : ∀ {H : List SO} {W : World}, HeapOk ⟨W5, W5.heap.size, st5, 176, []⟩ H W → Fresh W1 W := fun hh => (ov5.heap hh).fresh'
  clear r1 r2 hat2 ho2 hr2 ha2
  refine loop_go (α := Nat × List (At × Hd)) (fun q => q.1 ≤ z.length ∧ q.2.length = z.length ∧ cellsTs q.2 = cellsTs z) (fun _ => ⟨W5, W5.heap.size, st5, 176, []⟩)
   (fun q => { F := [(0, .val (.slice A h.length c)), (5, .val (.slice A1 h.length c1)), (6, .own 0 0), (14, .val (.slice B2 z2.length bc2)), (19, .val (.int .i64 q.1))], H := [.own 90 0 11 B z.length bc (cellsTs z)] ++ famQ 124 92 q.2 }) (fun q => z.length - q.1) (fun _ => rfl) ?start ?round
  case start =>
   intro a W rep
   exact ⟨(0, z), ⟨Nat.zero_le _, rfl, rfl⟩, rep⟩
  case round =>
   rintro ⟨i, y⟩ ⟨hi, hyl, hyc⟩ I again
   simp only at hi hyl hyc ⊢
   (refine Y_go 600 ?_; dsimp only [List.cons_append, List.nil_append, zq9y, t9n12, T9n12, zq9r, zq9q, Y_k, zq4u, zq8o, zq6n, Nat.reduceBEq, zq6l, zq6k, YK, zq8t, zq55, zq0t, nth, zq09, zq08, zq0q, zq50, zq04, zq92, zq9b, zq0i, zq9e, zq9i, normF, zq6m, zq86, zq87, zq8f, zq9s, zq6h, zq8x, YC, zq9p, t9n11, T9n11, zq9t, zq8p, zq6q, zq89, zq9v, zq9u, popTo, zq6i, YP, t9n14, T9n14, zq9j])
   refine ⟨fun hlt => ?_, fun hge => ?_⟩
   ·have hlt : i < z.length := by have := of_decide_eq_true hlt; omega
    have hzi : z[i]? = some z[i] := List.getElem?_eq_getElem hlt
    generalize z[i] = pz at hzi
    obtain ⟨xz, hdz⟩ := pz
    have hzc : ∀ k v, (cellsT xz hdz)[k]? = some v → (cellsTs z)[(i : Int).toNat * 11 + k]? = some v := fun k v hk => by
     rw [Int.toNat_natCast, cellsTs_get z hlt (List.getElem?_eq_some_iff.1 hk).1]
     obtain ⟨_, e⟩ := List.getElem?_eq_some_iff.1 hzi
     rw [e]; exact hk
    have hbz : 0 ≤ (i : Int) ∧ (i : Int) < (z.length : Int) := ⟨by omega, by omega⟩
    have hlx := hlens xz (by rw [← hz]; exact List.mem_map_of_mem (f := fun x : At × Hd => x.1) (List.mem_of_getElem? hzi))
    have stl : ∀ y : List (At × Hd), y.length = z.length → cellsTs y = cellsTs z → G (cxOf Try.prog Try.f9 K9 T9 R) ⟨W5, W5.heap.size, st5, 176, []⟩ [.code (.loop (.ref 8)), .blk 4, .blk 1, .code (.ref 10), .lend I, .blk 0, .code (.ref 14)] { F := [(0, .val (.slice A h.length c)), (5, .val (.slice A1 h.length c1)), (6, .own 0 0), (14, .val (.slice B2 z2.length bc2)), (19, .val (.int .i64 i)), (21, .val (.int .i64 0))], H := [.own 90 0 11 B z.length bc (cellsTs z)] ++ famQ 124 92 y } := by
     intro y hyl hyc
     refine loop_go (α := Nat × List (At × Hd)) (fun q => q.1 ≤ xz.stores.length ∧ q.2.length = z.length ∧ cellsTs q.2 = cellsTs z) (fun _ => ⟨W5, W5.heap.size, st5, 176, []⟩)
      (fun q => { F := [(0, .val (.slice A h.length c)), (5, .val (.slice A1 h.length c1)), (6, .own 0 0), (14, .val (.slice B2 z2.length bc2)), (19, .val (.int .i64 i)), (21, .val (.int .i64 q.1))], H := [.own 90 0 11 B z.length bc (cellsTs z)] ++ famQ 124 92 q.2 }) (fun q => xz.stores.length - q.1) (fun _ => rfl) ?start3 ?round3
     case start3 =>
      intro a W rep
      exact ⟨(0, y), ⟨Nat.zero_le _, hyl, hyc⟩, rep.few 1 (by (simp only [setn, List.nil_append, List.cons_append, leF, leH_nil, leH_cons, leF_nil, lk, scp, scpL, scpO, resF, resH, resO, resV, resVL, nth, Nat.reduceBEq, Nat.reduceLT, decide_true, decide_false, List.length, List.length_cons, List.length_nil, Nat.reduceAdd, Bool.and_self, Bool.and_true, and_true, true_and, numF] <;> try simp))⟩
     case round3 =>
      rintro ⟨k, y1⟩ ⟨hk, hy1l, hy1c⟩ I2 again2
      simp only at hk hy1l hy1c ⊢
      have hy1 : y1[i]? = some y1[i] := List.getElem?_eq_getElem (by omega)
      generalize y1[i] = py at hy1
      obtain ⟨x, hd⟩ := py
      have hceq := cellsTs_at hy1c hy1 hzi
      simp only [cellsT, List.cons.injEq, Value.slice.injEq, and_true] at hceq
      obtain ⟨_, _, _, _, _, _, _, ⟨q1, q2, q3⟩, ⟨q4, q5, q6⟩, _, _⟩ := hceq
      refine G.le (E' := ⟨W5, W5.heap.size, st5, 176, []⟩) rfl (s' := { F := [(0, .val (.slice A h.length c)), (5, .val (.slice A1 h.length c1)), (6, .own 0 0), (14, .val (.slice B2 z2.length bc2)), (19, .val (.int .i64 i)), (21, .val (.int .i64 k))], H := [.own 90 0 11 B z.length bc (cellsTs z)] ++ (quad 124 92 x hd ++ famQ 124 92 (y1.eraseIdx i)) }) (fun a W rep => rep.fam' (by (simp only [setn, List.nil_append, List.cons_append, leF, leH_nil, leH_cons, leF_nil, lk, scp, scpL, scpO, resF, resH, resO, resV, resVL, nth, Nat.reduceBEq, Nat.reduceLT, decide_true, decide_false, List.length, List.length_cons, List.length_nil, Nat.reduceAdd, Bool.and_self, Bool.and_true, and_true, true_and, numF] <;> try simp)) rfl (famQ_shut _ _ _) (famQ_out 124 92 hy1)) ?_
      refine G.cut (H1 := [.own 90 0 11 B z.length bc (cellsTs z)] ++ quad 124 92 x hd) (r := famQ 124 92 (y1.eraseIdx i)) (F := [(0, .val (.slice A h.length c)), (5, .val (.slice A1 h.length c1)), (6, .own 0 0), (14, .val (.slice B2 z2.length bc2)), (19, .val (.int .i64 i)), (21, .val (.int .i64 k))]) rfl (by simp only [quad, List.cons_append, List.nil_append]; (simp only [setn, List.nil_append, List.cons_append, leF, leH_nil, leH_cons, leF_nil, lk, scp, scpL, scpO, resF, resH, resO, resV, resVL, nth, Nat.reduceBEq, Nat.reduceLT, decide_true, decide_false, List.length, List.length_cons, List.length_nil, Nat.reduceAdd, Bool.and_self, Bool.and_true, and_true, true_and, numF] <;> try simp)) fun W6 hW6 hov6 => ?_
      generalize hst6 : fps ([.own 90 0 11 B z.length bc (cellsTs z)] ++ quad 124 92 x hd) = st6 at hov6 ⊢
      simp only [quad, List.cons_append, List.nil_append]
      (refine Y_go 24 ?_; dsimp only [zq9y, t9n8, T9n8, zq9r, zq9q, Y_k, zq4u, zq8o, zq6n, Nat.reduceBEq, zq6l, zq6k, YK, zq8t, zq58, zq06, zq0y, nth, zq09, zq08, zq0v, zq5a, zq15, zq13, zq5c, zq1q, zq1n, zq1g, List.nil_append, zq1b, zq18, zq55, zq0r, zq50, zq04, zq92, zq9b, zq0i, zq9e, zq9i, normF, zq6m, zq87, zq86, zq8f, zq9s, zq6h, zq8x, YC, zq9p, t9n7, T9n7, zq9t, Y_0, zq9u, popTo, zq6i, YP, zqa1, t9n10, T9n10, zq4w, zq8p, zq6q, zq0e, zq8a, zqa2])
      have hil : i < y1.length := by omega
      have bk : ∀ (x' : At) (F : List (Nat × SV)) (a : Act) (W : World), cellsT x' hd = cellsT x hd → Rep ⟨W6, W6.heap.size, st6, 176, []⟩ { F := F, H := [.own 90 0 11 B z.length bc (cellsTs z)] ++ quad 124 92 x' hd } a W → leF 1 F F → Rep ⟨W5, W5.heap.size, st5, 176, []⟩ { F := F, H := [.own 90 0 11 B z.length bc (cellsTs z)] ++ famQ 124 92 (y1.set i (x', hd)) } a W := fun x' F a W he rep hF => by
       have r2 := Rep.back (E := ⟨W5, W5.heap.size, st5, 176, []⟩) (E' := ⟨W6, W6.heap.size, st6, 176, []⟩) (nt := 176) (mk := []) hW6 (famQ_shut 124 92 (y1.eraseIdx i)) (H1' := [.own 90 0 11 B z.length bc (cellsTs z)] ++ quad 124 92 x' hd) rep (by rw [hst6]; exact Over.refl _) rfl rfl
       exact Rep.fam' (b := [.own 90 0 11 B z.length bc (cellsTs z)]) (r := quad 124 92 x' hd ++ famQ 124 92 (y1.eraseIdx i)) r2 hF rfl (fun e' he => by
        rcases List.mem_append.1 he with h2 | h2
        ·exact quad_shut _ _ _ _ e' h2
        ·exact famQ_shut _ _ _ e' h2) (famQ_in 124 92 x' hd hil)
      refine ⟨hbz, _, _, _, hzc 8 _ rfl, fun hkl => ⟨hbz, _, _, _, hzc 8 _ rfl, ?_⟩, fun hkl => ?_⟩
      ·have hkl : k < x.stores.length := by have := of_decide_eq_true hkl; omega
       rw [← q4, ← q5, ← q6]
       refine G.le (E' := ⟨W6, W6.heap.size, st6, 176, []⟩) rfl (s' := { F := [(159, .own 4 0), (0, .val (.slice A h.length c)), (5, .val (.slice A1 h.length c1)), (6, .own 0 0), (14, .val (.slice B2 z2.length bc2)), (19, .val (.int .i64 i)), (21, .val (.int .i64 k))], H := [.own 90 0 11 B z.length bc (cellsTs z), .row hd.g 124 (cellsA x hd), .map hd.t (tcV x.touched), .own 92 0 2 hd.lA x.loads.length hd.lc (cellsPr x.loads), .own 92 0 2 hd.sA x.stores.length hd.sc (cellsPr x.stores)] }) (fun a W rep => (rep.fold 159 (i := 4) rfl rfl).le (by (simp only [setn, List.nil_append, List.cons_append, leF, leH_nil, leH_cons, leF_nil, lk, scp, scpL, scpO, resF, resH, resO, resV, resVL, nth, Nat.reduceBEq, Nat.reduceLT, decide_true, decide_false, List.length, List.length_cons, List.length_nil, Nat.reduceAdd, Bool.and_self, Bool.and_true, and_true, true_and, numF] <;> try simp)) (by (simp only [setn, List.nil_append, List.cons_append, leF, leH_nil, leH_cons, leF_nil, lk, scp, scpL, scpO, resF, resH, resO, resV, resVL, nth, Nat.reduceBEq, Nat.reduceLT, decide_true, decide_false, List.length, List.length_cons, List.length_nil, Nat.reduceAdd, Bool.and_self, Bool.and_true, and_true, true_and, numF] <;> try simp))) ?_
       (refine Y_go 600 ?_; dsimp only [Y_k, zq4u, zq8o, zq6n, Nat.reduceBEq, zq6l, zq6k, YK, zq8t, zq5g, List.map, zq6q, zq21, zq8p, zq7u, zq73, zq0a, dropL, takeL, zq20, splice, setn, zq22, zq25, zq58, zq06, zq0y, nth, zq09, zq08, zq0v, zq5d, zq7t, List.length_cons, List.length_nil, Nat.reduceAdd, zq8l, zq8m, zq8k, zq1y, zq1w, denL, den, zq1v, zq8s, zq9i, normF, zq6m, zq86, zq87, zq8f, zqa1, zq9y, t9n6, T9n6, zq9q, zq4w, zq04, zq92, zq9b, zq0e, zqa2])
       refine ⟨⟨by omega, by omega⟩, by rw [Int.toNat_natCast, cellsPr_len]; omega, ((k + 1 : Nat) : Int), ArOk.to (by omega) (by omega) (by omega), lend_rule fun a W rep => ?_⟩
       have hput : setn (setn (cellsPr x.stores) ((k : Int).toNat * 2) (.int .i64 (-7))) ((k : Int).toNat * 2 + 1) (.int .u64 0) = cellsPr (x.stores.set k (-7, 0)) := by rw [Int.toNat_natCast]; exact cellsPr_put _ _ _ _ hkl
       rw [hput] at rep
       have hce : cellsT { x with stores := x.stores.set k (-7, 0) } hd = cellsT x hd := by simp [cellsT]
       refine again2 (k + 1, y1.set i ({ x with stores := x.stores.set k (-7, 0) }, hd)) ⟨by omega, by simp only [List.length_set]; exact hy1l, by rw [cellsTs_set hy1 hce, hy1c]⟩ (by simp only; omega) a W ?_
       refine bk { x with stores := x.stores.set k (-7, 0) } _ a W hce (rep.res.le (by simp only [quad]; (simp only [setn, List.nil_append, List.cons_append, leF, leH_nil, leH_cons, leF_nil, lk, scp, scpL, scpO, resF, resH, resO, resV, resVL, nth, Nat.reduceBEq, Nat.reduceLT, decide_true, decide_false, List.length, List.length_cons, List.length_nil, Nat.reduceAdd, Bool.and_self, Bool.and_true, and_true, true_and, numF] <;> try simp)) (by simp only [quad, cellsA, List.length_set]; (simp only [setn, List.nil_append, List.cons_append, leF, leH_nil, leH_cons, leF_nil, lk, scp, scpL, scpO, resF, resH, resO, resV, resVL, nth, Nat.reduceBEq, Nat.reduceLT, decide_true, decide_false, List.length, List.length_cons, List.length_nil, Nat.reduceAdd, Bool.and_self, Bool.and_true, and_true, true_and, numF] <;> try simp))) (by (simp only [setn, List.nil_append, List.cons_append, leF, leH_nil, leH_cons, leF_nil, lk, scp, scpL, scpO, resF, resH, resO, resV, resVL, nth, Nat.reduceBEq, Nat.reduceLT, decide_true, decide_false, List.length, List.length_cons, List.length_nil, Nat.reduceAdd, Bool.and_self, Bool.and_true, and_true, true_and, numF] <;> try simp))
      ·refine ⟨((i + 1 : Nat) : Int), ArOk.to (by omega) (by omega) (by omega), lend_rule fun a W rep => ?_⟩
       refine again (i + 1, y1.set i (x, hd)) ⟨hlt, by simp only [List.length_set]; exact hy1l, by rw [cellsTs_set hy1 rfl, hy1c]⟩ (by simp only; omega) a W ?_
       exact bk x _ a W rfl (rep.res.le (by simp only [quad]; (simp only [setn, List.nil_append, List.cons_append, leF, leH_nil, leH_cons, leF_nil, lk, scp, scpL, scpO, resF, resH, resO, resV, resVL, nth, Nat.reduceBEq, Nat.reduceLT, decide_true, decide_false, List.length, List.length_cons, List.length_nil, Nat.reduceAdd, Bool.and_self, Bool.and_true, and_true, true_and, numF] <;> try simp)) (by simp only [quad]; (simp only [setn, List.nil_append, List.cons_append, leF, leH_nil, leH_cons, leF_nil, lk, scp, scpL, scpO, resF, resH, resO, resV, resVL, nth, Nat.reduceBEq, Nat.reduceLT, decide_true, decide_false, List.length, List.length_cons, List.length_nil, Nat.reduceAdd, Bool.and_self, Bool.and_true, and_true, true_and, numF] <;> try simp))) (by (simp only [setn, List.nil_append, List.cons_append, leF, leH_nil, leH_cons, leF_nil, lk, scp, scpL, scpO, resF, resH, resO, resV, resVL, nth, Nat.reduceBEq, Nat.reduceLT, decide_true, decide_false, List.length, List.length_cons, List.length_nil, Nat.reduceAdd, Bool.and_self, Bool.and_true, and_true, true_and, numF] <;> try simp))
    refine loop_go (α := Nat × List (At × Hd)) (fun q => q.1 ≤ xz.loads.length ∧ q.2.length = z.length ∧ cellsTs q.2 = cellsTs z) (fun _ => ⟨W5, W5.heap.size, st5, 176, []⟩)
     (fun q => { F := [(0, .val (.slice A h.length c)), (5, .val (.slice A1 h.length c1)), (6, .own 0 0), (14, .val (.slice B2 z2.length bc2)), (19, .val (.int .i64 i)), (20, .val (.int .i64 q.1))], H := [.own 90 0 11 B z.length bc (cellsTs z)] ++ famQ 124 92 q.2 }) (fun q => xz.loads.length - q.1) (fun _ => rfl) ?start2 ?round2
    case start2 =>
     intro a W rep
     exact ⟨(0, y), ⟨Nat.zero_le _, hyl, hyc⟩, rep.few 1 (by (simp only [setn, List.nil_append, List.cons_append, leF, leH_nil, leH_cons, leF_nil, lk, scp, scpL, scpO, resF, resH, resO, resV, resVL, nth, Nat.reduceBEq, Nat.reduceLT, decide_true, decide_false, List.length, List.length_cons, List.length_nil, Nat.reduceAdd, Bool.and_self, Bool.and_true, and_true, true_and, numF] <;> try simp))⟩
    case round2 =>
     rintro ⟨k, y1⟩ ⟨hk, hy1l, hy1c⟩ I2 again2
     simp only at hk hy1l hy1c ⊢
     have hy1 : y1[i]? = some y1[i] := List.getElem?_eq_getElem (by omega)
     generalize y1[i] = py at hy1
     obtain ⟨x, hd⟩ := py
     have hceq := cellsTs_at hy1c hy1 hzi
     simp only [cellsT, List.cons.injEq, Value.slice.injEq, and_true] at hceq
     obtain ⟨_, _, _, _, _, _, _, ⟨q1, q2, q3⟩, ⟨q4, q5, q6⟩, _, _⟩ := hceq
     refine G.le (E' := ⟨W5, W5.heap.size, st5, 176, []⟩) rfl (s' := { F := [(0, .val (.slice A h.length c)), (5, .val (.slice A1 h.length c1)), (6, .own 0 0), (14, .val (.slice B2 z2.length bc2)), (19, .val (.int .i64 i)), (20, .val (.int .i64 k))], H := [.own 90 0 11 B z.length bc (cellsTs z)] ++ (quad 124 92 x hd ++ famQ 124 92 (y1.eraseIdx i)) }) (fun a W rep => rep.fam' (by (simp only [setn, List.nil_append, List.cons_append, leF, leH_nil, leH_cons, leF_nil, lk, scp, scpL, scpO, resF, resH, resO, resV, resVL, nth, Nat.reduceBEq, Nat.reduceLT, decide_true, decide_false, List.length, List.length_cons, List.length_nil, Nat.reduceAdd, Bool.and_self, Bool.and_true, and_true, true_and, numF] <;> try simp)) rfl (famQ_shut _ _ _) (famQ_out 124 92 hy1)) ?_
     refine G.cut (H1 := [.own 90 0 11 B z.length bc (cellsTs z)] ++ quad 124 92 x hd) (r := famQ 124 92 (y1.eraseIdx i)) (F := [(0, .val (.slice A h.length c)), (5, .val (.slice A1 h.length c1)), (6, .own 0 0), (14, .val (.slice B2 z2.length bc2)), (19, .val (.int .i64 i)), (20, .val (.int .i64 k))]) rfl (by simp only [quad, List.cons_append, List.nil_append]; (simp only [setn, List.nil_append, List.cons_append, leF, leH_nil, leH_cons, leF_nil, lk, scp, scpL, scpO, resF, resH, resO, resV, resVL, nth, Nat.reduceBEq, Nat.reduceLT, decide_true, decide_false, List.length, List.length_cons, List.length_nil, Nat.reduceAdd, Bool.and_self, Bool.and_true, and_true, true_and, numF] <;> try simp)) fun W6 hW6 hov6 => ?_
     generalize hst6 : fps ([.own 90 0 11 B z.length bc (cellsTs z)] ++ quad 124 92 x hd) = st6 at hov6 ⊢
     simp only [quad, List.cons_append, List.nil_append]
     (refine Y_go 24 ?_; dsimp only [zq9y, t9n5, T9n5, zq9r, zq9q, Y_k, zq4u, zq8o, zq6n, Nat.reduceBEq, zq6l, zq6k, YK, zq8t, zq58, zq06, zq0y, nth, zq09, zq08, zq0v, zq5a, zq15, zq13, zq5c, zq1q, zq1n, zq1g, List.nil_append, zq1b, zq18, zq55, zq0r, zq50, zq04, zq92, zq9b, zq0i, zq9e, zq9i, normF, zq6m, zq86, zq87, zq8f, zq9s, zq6h, zq8x, YC, zq9p, t9n4, T9n4, zq9t, Y_0, zq9u, popTo, zq6i, YP, t9n9, T9n9, zq8p, zq6q, zq8a, zq9v])
     have hil : i < y1.length := by omega
     have bk : ∀ (x' : At) (F : List (Nat × SV)) (a : Act) (W : World), cellsT x' hd = cellsT x hd → Rep ⟨W6, W6.heap.size, st6, 176, []⟩ { F := F, H := [.own 90 0 11 B z.length bc (cellsTs z)] ++ quad 124 92 x' hd } a W → leF 1 F F → Rep ⟨W5, W5.heap.size, st5, 176, []⟩ { F := F, H := [.own 90 0 11 B z.length bc (cellsTs z)] ++ famQ 124 92 (y1.set i (x', hd)) } a W := fun x' F a W he rep hF => by
      have r2 := Rep.back (E := ⟨W5, W5.heap.size, st5, 176, []⟩) (E' := ⟨W6, W6.heap.size, st6, 176, []⟩) (nt := 176) (mk := []) hW6 (famQ_shut 124 92 (y1.eraseIdx i)) (H1' := [.own 90 0 11 B z.length bc (cellsTs z)] ++ quad 124 92 x' hd) rep (by rw [hst6]; exact Over.refl _) rfl rfl
      exact Rep.fam' (b := [.own 90 0 11 B z.length bc (cellsTs z)]) (r := quad 124 92 x' hd ++ famQ 124 92 (y1.eraseIdx i)) r2 hF rfl (fun e' he => by
       rcases List.mem_append.1 he with h2 | h2
       ·exact quad_shut _ _ _ _ e' h2
       ·exact famQ_shut _ _ _ e' h2) (famQ_in 124 92 x' hd hil)
     refine ⟨hbz, _, _, _, hzc 7 _ rfl, fun hkl => ⟨hbz, _, _, _, hzc 7 _ rfl, ?_⟩, fun hkl => ?_⟩
     ·have hkl : k < x.loads.length := by have := of_decide_eq_true hkl; omega
      rw [← q1, ← q2, ← q3]
      refine G.le (E' := ⟨W6, W6.heap.size, st6, 176, []⟩) rfl (s' := { F := [(141, .own 3 0), (0, .val (.slice A h.length c)), (5, .val (.slice A1 h.length c1)), (6, .own 0 0), (14, .val (.slice B2 z2.length bc2)), (19, .val (.int .i64 i)), (20, .val (.int .i64 k))], H := [.own 90 0 11 B z.length bc (cellsTs z), .row hd.g 124 (cellsA x hd), .map hd.t (tcV x.touched), .own 92 0 2 hd.lA x.loads.length hd.lc (cellsPr x.loads), .own 92 0 2 hd.sA x.stores.length hd.sc (cellsPr x.stores)] }) (fun a W rep => (rep.fold 141 (i := 3) rfl rfl).le (by (simp only [setn, List.nil_append, List.cons_append, leF, leH_nil, leH_cons, leF_nil, lk, scp, scpL, scpO, resF, resH, resO, resV, resVL, nth, Nat.reduceBEq, Nat.reduceLT, decide_true, decide_false, List.length, List.length_cons, List.length_nil, Nat.reduceAdd, Bool.and_self, Bool.and_true, and_true, true_and, numF] <;> try simp)) (by (simp only [setn, List.nil_append, List.cons_append, leF, leH_nil, leH_cons, leF_nil, lk, scp, scpL, scpO, resF, resH, resO, resV, resVL, nth, Nat.reduceBEq, Nat.reduceLT, decide_true, decide_false, List.length, List.length_cons, List.length_nil, Nat.reduceAdd, Bool.and_self, Bool.and_true, and_true, true_and, numF] <;> try simp))) ?_
      (refine Y_go 600 ?_; dsimp only [Y_k, zq4u, zq8o, zq6n, Nat.reduceBEq, zq6l, zq6k, YK, zq8t, zq5g, List.map, zq6q, zq21, zq8p, zq7u, zq73, zq0a, dropL, takeL, zq20, splice, setn, zq22, zq25, zq58, zq06, zq0y, nth, zq09, zq08, zq0v, zq5d, zq7t, List.length_cons, List.length_nil, Nat.reduceAdd, zq8l, zq8m, zq8k, zq1y, zq1w, denL, den, zq1v, zq8s, zq9i, normF, zq6m, zq86, zq87, zq8f, zqa1, zq9y, t9n3, T9n3, zq9q, zq4w, zq04, zq92, zq9b, zq0e, zqa2])
      refine ⟨⟨by omega, by omega⟩, by rw [Int.toNat_natCast, cellsPr_len]; omega, ((k + 1 : Nat) : Int), ArOk.to (by omega) (by omega) (by omega), lend_rule fun a W rep => ?_⟩
      have hput : setn (setn (cellsPr x.loads) ((k : Int).toNat * 2) (.int .i64 (-7))) ((k : Int).toNat * 2 + 1) (.int .u64 0) = cellsPr (x.loads.set k (-7, 0)) := by rw [Int.toNat_natCast]; exact cellsPr_put _ _ _ _ hkl
      rw [hput] at rep
      have hce : cellsT { x with loads := x.loads.set k (-7, 0) } hd = cellsT x hd := by simp [cellsT]
      refine again2 (k + 1, y1.set i ({ x with loads := x.loads.set k (-7, 0) }, hd)) ⟨by omega, by simp only [List.length_set]; exact hy1l, by rw [cellsTs_set hy1 hce, hy1c]⟩ (by simp only; omega) a W ?_
      refine bk { x with loads := x.loads.set k (-7, 0) } _ a W hce (rep.res.le (by simp only [quad]; (simp only [setn, List.nil_append, List.cons_append, leF, leH_nil, leH_cons, leF_nil, lk, scp, scpL, scpO, resF, resH, resO, resV, resVL, nth, Nat.reduceBEq, Nat.reduceLT, decide_true, decide_false, List.length, List.length_cons, List.length_nil, Nat.reduceAdd, Bool.and_self, Bool.and_true, and_true, true_and, numF] <;> try simp)) (by simp only [quad, cellsA, List.length_set]; (simp only [setn, List.nil_append, List.cons_append, leF, leH_nil, leH_cons, leF_nil, lk, scp, scpL, scpO, resF, resH, resO, resV, resVL, nth, Nat.reduceBEq, Nat.reduceLT, decide_true, decide_false, List.length, List.length_cons, List.length_nil, Nat.reduceAdd, Bool.and_self, Bool.and_true, and_true, true_and, numF] <;> try simp))) (by (simp only [setn, List.nil_append, List.cons_append, leF, leH_nil, leH_cons, leF_nil, lk, scp, scpL, scpO, resF, resH, resO, resV, resVL, nth, Nat.reduceBEq, Nat.reduceLT, decide_true, decide_false, List.length, List.length_cons, List.length_nil, Nat.reduceAdd, Bool.and_self, Bool.and_true, and_true, true_and, numF] <;> try simp))
     ·refine fun a W rep => stl (y1.set i (x, hd)) (by simp only [List.length_set]; exact hy1l) (by rw [cellsTs_set hy1 rfl, hy1c]) a W ?_
      exact bk x _ a W rfl (rep.res.le (by simp only [quad]; (simp only [setn, List.nil_append, List.cons_append, leF, leH_nil, leH_cons, leF_nil, lk, scp, scpL, scpO, resF, resH, resO, resV, resVL, nth, Nat.reduceBEq, Nat.reduceLT, decide_true, decide_false, List.length, List.length_cons, List.length_nil, Nat.reduceAdd, Bool.and_self, Bool.and_true, and_true, true_and, numF] <;> try simp)) (by simp only [quad]; (simp only [setn, List.nil_append, List.cons_append, leF, leH_nil, leH_cons, leF_nil, lk, scp, scpL, scpO, resF, resH, resO, resV, resVL, nth, Nat.reduceBEq, Nat.reduceLT, decide_true, decide_false, List.length, List.length_cons, List.length_nil, Nat.reduceAdd, Bool.and_self, Bool.and_true, and_true, true_and, numF] <;> try simp))) (by (simp only [setn, List.nil_append, List.cons_append, leF, leH_nil, leH_cons, leF_nil, lk, scp, scpL, scpO, resF, resH, resO, resV, resVL, nth, Nat.reduceBEq, Nat.reduceLT, decide_true, decide_false, List.length, List.length_cons, List.length_nil, Nat.reduceAdd, Bool.and_self, Bool.and_true, and_true, true_and, numF] <;> try simp))
   ·refine G.le (E' := ⟨W5, W5.heap.size, st5, 176, []⟩) rfl (s' := { F := [(164, .val (.slice A1 h.length c1)), (0, .val (.slice A h.length c)), (5, .val (.slice A1 h.length c1)), (14, .val (.slice B2 z2.length bc2))], H := [] ++ ([.own 90 0 11 B z.length bc (cellsTs z)] ++ famQ 124 92 y) }) (fun a W rep => rep.few 0 (by (simp only [setn, List.nil_append, List.cons_append, leF, leH_nil, leH_cons, leF_nil, lk, scp, scpL, scpO, resF, resH, resO, resV, resVL, nth, Nat.reduceBEq, Nat.reduceLT, decide_true, decide_false, List.length, List.length_cons, List.length_nil, Nat.reduceAdd, Bool.and_self, Bool.and_true, and_true, true_and, numF] <;> try simp))) ?_
    refine G.cut (H1 := []) (r := [.own 90 0 11 B z.length bc (cellsTs z)] ++ famQ 124 92 y) rfl ?_ fun W6 hW6 hov6 => ?_
    ·(simp only [setn, List.nil_append, List.cons_append, leF, leH_nil, leH_cons, leF_nil, lk, scp, scpL, scpO, resF, resH, resO, resV, resVL, nth, Nat.reduceBEq, Nat.reduceLT, decide_true, decide_false, List.length, List.length_cons, List.length_nil, Nat.reduceAdd, Bool.and_self, Bool.and_true, and_true, true_and, numF] <;> try simp)
    have hO6 := hO5.over hov6
    have hA6 := hA5.over hov6
    have hB6 := hB5.over hov6
    have hat6 := hat5.over hov6
    refine call_base (vs := [.slice A1 h.length c1]) rfl (R := fun W v w' => ∃ (z3 : List (At × Hd)) (B3 : Option Addr) (bc3 : Nat), z3.map (·.1) = l ∧ v = .tuple #[.slice B3 z3.length bc3, .int .i64 0] ∧ AtsAt w' B3 z3 ∧ Fresh W w') (fun W hW => (split31 A1 c1 h W (hO6.at hW) (by omega)).mono ?_) (fun _ _ _ hr => by obtain ⟨_, _, _, _, _, _, hf⟩ := hr; exact hf) fun W7 v W8 hW7 hr ov8 => ?_
    ·rintro v W' (⟨h1, _⟩ | ⟨z3, B3, bc3, h1, h2, h3⟩)
     ·rw [hs] at h1; cases h1
     ·rw [hs] at h1; injection h1 with h1
      refine ⟨z3, B3, bc3, h1.symm, h2, ⟨h3.rowAt' (i := 0) (t := 90) (ver := 0) (sz := 11) (n := z3.length) (c := bc3) rfl, fun p hp => ⟨?_, ?_⟩⟩, h3.fresh'⟩
      ·have hm := List.mem_append_right [SO.own 90 0 11 B3 z3.length bc3 (cellsTs z3)] (famQ_mem 124 92 hp (.own 92 0 2 p.2.lA p.1.loads.length p.2.lc (cellsPr p.1.loads)) (by simp [quad]))
       obtain ⟨i, hi⟩ := List.getElem?_of_mem hm
       exact h3.rowAt' (i := i) (by rw [nth_eq]; exact hi)
      ·have hm := List.mem_append_right [SO.own 90 0 11 B3 z3.length bc3 (cellsTs z3)] (famQ_mem 124 92 hp (.own 92 0 2 p.2.sA p.1.stores.length p.2.sc (cellsPr p.1.stores)) (by simp [quad]))
       obtain ⟨i, hi⟩ := List.getElem?_of_mem hm
       exact h3.rowAt' (i := i) (by rw [nth_eq]; exact hi)
    obtain ⟨z3, B3, bc3, hz3, hv, hat3, hf⟩ := hr
    have hO8 := hO6.over ov8
    have hA8 := hA6.over ov8
    have hB8 := hB6.over ov8
    have hat8 := hat6.over ov8
    refine ⟨.tup [.val (.slice B3 z3.length bc3), .val (.int .i64 0)], by rw [hv]; simp [Is, IsL], ?_⟩
    show G _ ⟨W8, W8.heap.size, [], 176, []⟩ _ _
    simp only [putF]
    (refine Y_go 600 ?_; dsimp only [Y_k, zq4u, zq8o, zq6n, Nat.reduceBEq, zq6k, YK, zq8t, zq5j, zq2f, nth, zq2e, zq6l, zq9i, normF, zq6m, zq86, zq87, zq9y, t9n13, T9n13, zq9r, zq9q, zq9j])
    refine call_val (R := fun v => v = .bool true) (vs := [.slice B3 z3.length bc3, .slice B2 z2.length bc2]) rfl (fun W hW => same38 B3 B2 bc3 bc2 z3 z2 W (hat3.keep hW.fresh') ⟨hB8.at hW, hat8.at hW⟩ (by rw [hz3, hlz2]) hz2l hp2) fun v hv => ⟨.bt, by rw [hv]; simp [Is], ?_⟩
    (refine Y_go 600 ?_; dsimp only [zq8t, Y_k, zq4u, zq8o, zq6n, Nat.reduceBEq, zq6k, YK, Y_gk, zq69, YR, zq6l, zq9l, YG])
    refine call_val (R := fun v => v = .bool true) (vs := [.slice A1 h.length c1, .slice A h.length c]) rfl (fun W hW => events39 A1 A c1 c h W (hO8.at hW) (hA8.at hW) (by omega)) fun v hv => ⟨.bt, by rw [hv]; simp [Is], ?_⟩
    (refine Y_go 600 ?_; dsimp only [zq8t, Y_k, zq4v, zq8o, zq6n, Nat.reduceBEq, zq6k, zq8p, zq6p, zq6l, zq0b, YK, zq4u, zq9i, normF, zq6m, zq86, zq87, zq89, zq9x])
    exact ret_rule (vs := [.bool true]) r9 rfl rfl fun W hW => hR _ _ ⟨rfl, hf1.tr (fr5 ((hov6.trans ov8).heap hW))⟩
end Go.Proofs.Ytnedgfkgmdoahaa
