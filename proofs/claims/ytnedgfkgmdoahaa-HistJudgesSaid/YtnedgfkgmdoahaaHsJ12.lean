/- shuntlaw12.HistJudges. -/
import Derived.Test.YtnedgfkgmdoahaaHsJ11
import Derived.Test.YtnedgfkgmdoahaaHsX11
import Derived.Test.YtnedgfkgmdoahaaHsCodeJ
set_option linter.unusedSimpArgs false
set_option linter.unusedVariables false
set_option linter.unnecessarySimpa false
namespace Go.Proofs.Ytnedgfkgmdoahaa
open Go Go.Sx Go.Hs
set_option maxRecDepth 100000
theorem us_one (l : List Int) : ∀ v ∈ l.map uV, v.oneCell' = true := by
 intro v hv
 obtain ⟨a, _, rfl⟩ := List.mem_map.1 hv
 rfl
theorem law10 (A A' : Option Addr) (c c' : Nat) (h : List Ev) (first : List Int) (ws : Int) (w : World) (hA : RowAt w A (cellsE h)) (hF : RowAt w A' (first.map uV)) :
  CallsV Try.prog 10 [.slice A h.length c, .slice A' first.length c', .int .i64 ws] w fun v w' => v = .bool true ∧ Fresh w w' := by
 refine calls_go (keep := K10) (nt := 106) (svs := [.val (.slice A h.length c), .val (.slice A' first.length c'), .val (.int .i64 ws)]) Try.func10 x10 n10 (by simp) (by simp [IsL, Is]) fun R hR => ?_
 (refine Y_go 600 ?_; dsimp only [X10, numF, Nat.reduceAdd, zq9r, zq9q, Y_k, zq4u, zq8p, zq6p, YK, zq8t, zq9i, normF, zq6n, Nat.reduceBEq, zq6l, zq6k, zq6m, zq86, zq8a, zq87, zq9y, t10n10, T10n10, zq8o, zq55, zq0r, zq50, zq6q, zq04, zq92, zq9b, zq0i, zq9g, Y_gk, zq6e, YS, zq6a, zq4v, zq6o, zq0b, zq89, zq9s, zq6f, YC, t10n0, T10n0, zq9x, YR, zq6c, zq0c, zq6h, zq8x, zq9p, t10n9, T10n9, zq5h, List.map, repL, zq24, zq26, List.length_nil, List.nil_append, zq5l, zq2x, nth, zq2u, Nat.reduceMul, denL, zq2t, zq2r, zq2o, zq2i, List.length_cons, setn, List.cons_append, zq8f, t10n8, T10n8, zq9j])
 refine ⟨fun _ => ?_, fun h1 => ⟨fun _ => ?_, fun h2 => ?_⟩⟩
 ·exact ret_rule (vs := [.bool true]) r10 rfl rfl fun W hW => hR _ _ ⟨rfl, hW.fresh'⟩
 ·exact ret_rule (vs := [.bool true]) r10 rfl rfl fun W hW => hR _ _ ⟨rfl, hW.fresh'⟩
 have h1 : h.length ≤ 150 := by have := of_decide_eq_false h1; omega
 have h2 : first.length ≤ 600 := by have := of_decide_eq_false h2; omega
 refine fun g0 => ⟨first.map uV, by rw [Nat.mul_one, ← List.length_map (f := uV)]; exact hF.rd (us_one first), ⟨by simp only [maxLen]; omega, by omega⟩, fun A1 c1 => ?_⟩
 rw [Nat.zero_add]
 refine G.le (E' := ⟨w, w.heap.size, [], 106, []⟩) rfl (s' := { F := [(31, .val (.slice A1 first.length c1)), (30, .val (.slice A h.length c)), (0, .val (.slice A h.length c)), (1, .val (.slice A' first.length c')), (2, .val (.int .i64 ws)), (7, .val (.slice A1 first.length c1))], H := [] ++ [.gone g0, .own 63 0 1 A1 first.length c1 (first.map uV)] }) (fun a W rep => ((rep.plain 31 (i := 1) rfl rfl).plain 7 (i := 1) rfl rfl).le (by (simp only [setn, List.nil_append, List.cons_append, leF, leH_nil, leH_cons, leF_nil, lk, scp, scpL, scpO, resF, resH, resO, resV, resVL, nth, Nat.reduceBEq, Nat.reduceLT, decide_true, decide_false, List.length, List.length_cons, List.length_nil, Nat.reduceAdd, Bool.and_self, Bool.and_true, and_true, true_and, numF] <;> try simp)) (by (simp only [setn, List.nil_append, List.cons_append, leF, leH_nil, leH_cons, leF_nil, lk, scp, scpL, scpO, resF, resH, resO, resV, resVL, nth, Nat.reduceBEq, Nat.reduceLT, decide_true, decide_false, List.length, List.length_cons, List.length_nil, Nat.reduceAdd, Bool.and_self, Bool.and_true, and_true, true_and, numF] <;> try simp))) ?_
 refine G.cut (H1 := []) (r := [.gone g0, .own 63 0 1 A1 first.length c1 (first.map uV)]) rfl (by (simp only [setn, List.nil_append, List.cons_append, leF, leH_nil, leH_cons, leF_nil, lk, scp, scpL, scpO, resF, resH, resO, resV, resVL, nth, Nat.reduceBEq, Nat.reduceLT, decide_true, decide_false, List.length, List.length_cons, List.length_nil, Nat.reduceAdd, Bool.and_self, Bool.and_true, and_true, true_and, numF] <;> try simp)) fun W1 hW1 hov1 => ?_
 have hO : RowAt W1 A1 (first.map uV) := hW1.rowAt' (i := 1) (t := 63) (ver := 0) (sz := 1) (n := first.length) (c := c1) rfl
 have hA1 : RowAt W1 A (cellsE h) := ((rowE0 hA 106 []).over hov1).at (heapOk_nil (w := W1) (N := W1.heap.size) (Nat.le_refl _) (fps []) 106 [])
 have hF1 : RowAt W1 A' (first.map uV) := ((rowE0 hF 106 []).over hov1).at (heapOk_nil (w := W1) (N := W1.heap.size) (Nat.le_refl _) (fps []) 106 [])
 have fr1 : ∀ {H : List SO} {W2 : World}, HeapOk ⟨W1, W1.heap.size, [], 106, []⟩ H W2 → Fresh w W2 := fun hh => (hov1.heap hh).fresh'
 show G _ ⟨W1, W1.heap.size, [], 106, []⟩ _ _
 have done : ∀ s, denAll s.H s.F [6] = some [.bool true] → RetG (cxOf Try.prog Try.f10 K10 T10 R) ⟨W1, W1.heap.size, [], 106, []⟩ s := fun s hs =>
  ret_rule (vs := [.bool true]) r10 rfl hs fun W hW => hR _ _ ⟨rfl, fr1 hW⟩
 have hms : mayL h = (splitL h).isSome := by rw [mayL_sp]; unfold splitL; cases sp h h.length <;> rfl
 cases hs : splitL h with
 | none =>
  have hm : mayL h = false := by rw [hms, hs]; rfl
  refine call_val (R := fun v => v = .tuple #[.int .i64 0, .bool false, .int .i64 120]) (vs := [.slice A h.length c, .slice A1 first.length c1]) rfl (fun W hW => (judge40 A A1 c c1 h first W (hA1.keep hW.fresh') (hO.keep hW.fresh') (by omega) (by omega)).mono ?_) fun v hv => ⟨.tup [.val (.int .i64 0), .bf, .val (.int .i64 120)], by rw [hv]; simp [Is, IsL], ?_⟩
  ·rintro v W' ⟨⟨_, h2⟩ | ⟨l, h1, _⟩, h3⟩
   ·exact ⟨h2, h3⟩
   ·rw [hs] at h1; cases h1
  (refine Y_go 600 ?_; dsimp only [zq8t, Y_k, zq4u, zq8o, zq6n, Nat.reduceBEq, zq6k, YK, zq5j, zq2f, nth, zq2e, zq6l, zq9i, normF, zq6m, zq86, zq87, zq8a, zq9y, t10n7, T10n7, zq9r, zq9q, zq9j])
  refine call_val (R := fun v => v = .tuple #[.slice none 0 0, .int .i64 120]) (vs := [.slice A h.length c, .slice A1 first.length c1, .int .i64 ws]) rfl (fun W hW => (final41 A A1 c c1 h first ws W (hA1.keep hW.fresh') (hO.keep hW.fresh') (by omega) (by omega)).mono ?_) fun v hv => ⟨.tup [.val (.slice none 0 0), .val (.int .i64 120)], by rw [hv]; simp [Is, IsL], ?_⟩
  ·rintro v W' ⟨⟨_, h2⟩ | ⟨_, _, l, _, _, h1, _⟩, h3⟩
   ·exact ⟨h2, h3⟩
   ·rw [hs] at h1; cases h1
  (refine Y_go 600 ?_; dsimp only [zq8t, Y_k, zq4u, zq8o, zq6n, Nat.reduceBEq, zq6k, YK, zq5j, zq2f, nth, zq2e, zq6l, zq9i, normF, zq6m, zq86, zq87, zq8a, zq9y, t10n6, T10n6, zq9r, zq9q, zq9j])
  refine call_val (R := fun v => v = .bool (mayL h)) (vs := [.slice A h.length c]) rfl (fun W hW => may34 A c h W (hA1.keep hW.fresh') (by omega)) fun v hv => ⟨.bf, by rw [hv, hm]; simp [Is], ?_⟩
  (refine Y_go 600 ?_; dsimp only [zq8t, Y_k, zq4u, zq8o, zq6n, Nat.reduceBEq, zq6k, YK, zq9i, normF, zq6l, zq6m, zq86, zq8a, zq87, zq9y, t10n5, T10n5, zq9r, zq9q, zq53, zq0n, zq89, zq9s, zq6f, YC, t10n1, T10n1, zq50, zq8p, zq6q, zq04, zq92, zq9b, zq0i, zq9c, Y_gk, zq6d, YR, zq69, zq4v, zq6p, zq0b, zq55, zq0r, zq9x, YS, zq6b, zq0c])
  repeat' first
   | (refine ⟨fun q => ?_, fun q => ?_⟩ <;> first | (exfalso; revert q; decide) | skip)
   | exact done _ rfl
   | fail
 | some l =>
  have hm : mayL h = true := by rw [hms, hs]; rfl
  have hlr := splitL_ref hs
  have ok := ats_of hs
  have hbe : badE h (splitR h) first = badAt h l (begL first) := by rw [← hlr]; exact funext fun n => bad_eq ok first n
  have hfe : ∀ n, finD h (splitR h) first n = finL h l first n := fun n => by
   rw [← hlr]; unfold finD finL
   exact List.map_congr_left fun a _ => word_mem ok first a h.length
  have hls : ∀ x ∈ splitR h, x.loads.length ≤ 1000 ∧ x.stores.length ≤ 1000 ∧ ∀ p ∈ x.loads, 0 ≤ p.1 := by
   intro x hx
   rw [← hlr] at hx
   refine ⟨?_, ?_, (ok.ok x hx).ld⟩
   all_goals
    unfold splitL at hs
    cases hq : sp h h.length with
    | none => rw [hq] at hs; cases hs
    | some s0 =>
     rw [hq] at hs; injection hs with hs
     have := sp_lens hq x (by rw [show s0.out = l from hs]; exact hx)
     omega
  have hpl : ∀ n, n < h.length → (evA h n).kind = 7 → 0 ≤ (evA h n).addr := fun n hn hk => by
   unfold splitL at hs
   cases hq : sp h (n + 1) with
   | none => rw [sp_none hq (by omega : n + 1 ≤ h.length)] at hs; cases hs
   | some s1 =>
    cases h0 : sp h n with
    | none => rw [sp_none h0 (by omega : n ≤ n + 1)] at hq; cases hq
    | some s0 =>
     rw [sp_get hn h0, ← evA_lt hn] at hq
     unfold Hs.stepS at hq
     split at hq
     ·rename_i hmy
      exact may_addr hmy (by unfold wordB plainB; rw [hk]; rfl)
     ·cases hq
  have hjd : ∀ {H : List SO} {W : World}, HeapOk ⟨W1, W1.heap.size, [], 106, []⟩ H W → CallsV Try.prog 40 [.slice A h.length c, .slice A1 first.length c1] W fun v w' => v = judR h l first ∧ Fresh W w' := fun {H} {W} hW => (judge40 A A1 c c1 h first W (hA1.keep hW.fresh') (hO.keep hW.fresh') (by omega) (by omega)).mono (by
   rintro v W' ⟨⟨h1, _⟩ | ⟨l', h1, h2⟩, h3⟩
   ·rw [hs] at h1; cases h1
   ·rw [hs] at h1; injection h1 with h1; subst h1; exact ⟨h2, h3⟩)
  unfold judR at hjd
  generalize hfr : frst (badAt h l (begL first)) h.length = fr at hjd
  refine call_val (R := fun v => v = .tuple #[.int .i64 (fr.getD 0 : Nat), .bool fr.isNone, .int .i64 0]) (vs := [.slice A h.length c, .slice A1 first.length c1]) rfl (fun W hW => hjd hW) fun v hv => ⟨.tup [.val (.int .i64 (fr.getD 0 : Nat)), .val (.bool fr.isNone), .val (.int .i64 0)], by rw [hv]; simp [Is, IsL], ?_⟩
  (refine Y_go 600 ?_; dsimp only [zq8t, Y_k, zq4u, zq8o, zq6n, Nat.reduceBEq, zq6k, YK, zq5j, zq2f, nth, zq2e, zq6l, zq9i, normF, zq6m, zq86, zq87, zq9y, t10n7, T10n7, zq9r, zq9q, zq9j])
  obtain ⟨x, f, hxl, h41, h43⟩ : ∃ (x : List Int) (f : Int), x.length ≤ 100000 ∧ (∀ W, RowAt W A (cellsE h) → RowAt W A1 (first.map uV) → CallsV Try.prog 41 [.slice A h.length c, .slice A1 first.length c1, .int .i64 ws] W fun v w' => ∃ S sc, v = .tuple #[.slice S x.length sc, .int .i64 f] ∧ RowAt w' S (x.map uV) ∧ Fresh W w') ∧
    (∀ W, RowAt W A (cellsE h) → RowAt W A' (first.map uV) → CallsV Try.prog 43 [.slice A h.length c, .slice A' first.length c', .int .i64 ws] W fun v w' => ∃ S sc, v = .tuple #[.slice S x.length sc, .int .i64 f] ∧ RowAt w' S (x.map uV) ∧ Fresh W w') := by
   by_cases hw : ws < 0 ∨ ws > 512
   ·refine ⟨[], 120, by simp, fun W k1 k2 => (final41 A A1 c c1 h first ws W k1 k2 (by omega) (by omega)).mono ?_, fun W k1 k2 => (reffinal43 A A' c c' h first ws W k1 k2 (by omega) (by omega) hm fun x hx => (hls x hx).2.1).mono ?_⟩
    ·rintro v W' ⟨⟨_, q2⟩ | ⟨q1, q2, _⟩, q3⟩
     ·exact ⟨none, 0, q2, fun j u hj => by simp at hj, q3⟩
     ·omega
    ·rintro v W' ⟨⟨_, q2⟩ | ⟨q1, q2, _⟩, q3⟩
     ·exact ⟨none, 0, q2, fun j u hj => by simp at hj, q3⟩
     ·omega
   ·have hxl : (finL h l first ws.toNat).length = ws.toNat := by unfold finL; simp
    refine ⟨finL h l first ws.toNat, 0, by omega, fun W k1 k2 => (final41 A A1 c c1 h first ws W k1 k2 (by omega) (by omega)).mono ?_, fun W k1 k2 => (reffinal43 A A' c c' h first ws W k1 k2 (by omega) (by omega) hm fun x hx => (hls x hx).2.1).mono ?_⟩
    ·rintro v W' ⟨⟨q1, _⟩ | ⟨_, _, l', S, sc, q1, q2, q4⟩, q3⟩
     ·rcases q1 with q1 | q1
      ·rw [hs] at q1; cases q1
      ·exact absurd q1 hw
     ·rw [hs] at q1; injection q1 with q1; subst q1
      exact ⟨S, sc, by rw [hxl]; exact q2, RowAt.of_own q4 rfl, q3⟩
    ·rintro v W' ⟨⟨q1, _⟩ | ⟨_, _, S, sc, q2, q4⟩, q3⟩
     ·exact absurd q1 hw
     ·rw [hfe] at q4
      exact ⟨S, sc, by rw [hxl]; exact q2, RowAt.of_own q4 rfl, q3⟩
  refine call_base (vs := [.slice A h.length c, .slice A1 first.length c1, .int .i64 ws]) rfl (R := fun W v w' => ∃ S sc, v = .tuple #[.slice S x.length sc, .int .i64 f] ∧ RowAt w' S (x.map uV) ∧ Fresh W w') (fun W hW => h41 W (hA1.keep hW.fresh') (hO.keep hW.fresh')) (fun _ _ _ ⟨_, _, _, _, hf⟩ => hf) fun W v W2 hW ⟨S, sc, hv, hS, hf⟩ ov => ?_
  refine ⟨.tup [.val (.slice S x.length sc), .val (.int .i64 f)], by rw [hv]; simp [Is, IsL], ?_⟩
  have f2 : Fresh W1 W2 := hW.fresh'.tr hf
  have hA2 := hA1.keep f2
  have hF2 := hF1.keep f2
  have hO2 := hO.keep f2
  simp only [putF] at ov ⊢
  show G _ ⟨W2, W2.heap.size, [], 106, []⟩ _ _
  (refine Y_go 600 ?_; dsimp only [Y_k, zq4u, zq8o, zq6n, Nat.reduceBEq, zq6k, YK, zq8t, zq5j, zq2f, nth, zq2e, zq6l, zq9i, normF, zq6m, zq86, zq87, zq9y, t10n6, T10n6, zq9r, zq9q, zq9j])
  refine call_val (R := fun v => v = .bool (mayL h)) (vs := [.slice A h.length c]) rfl (fun W hW => may34 A c h W (hA2.keep hW.fresh') (by omega)) fun v hv => ⟨.bt, by rw [hv, hm]; simp [Is], ?_⟩
  (refine Y_go 600 ?_; dsimp only [zq8t, Y_k, zq4u, zq8o, zq6n, Nat.reduceBEq, zq6k, YK, zq9i, normF, zq6l, zq6m, zq86, zq89, zq87, zq9y, t10n5, T10n5, zq9r, zq9q, zq53, zq0m, zq8a, zq9s, zq6g, YC, zq9p, t10n4, T10n4, zq9j])
  refine call_val (R := fun v => v = .tuple #[.int .i64 (fr.getD 0 : Nat), .bool fr.isNone]) (vs := [.slice A h.length c, .slice A' first.length c']) rfl (fun W hW => (refjudge42 A A' c c' h first W (hA2.keep hW.fresh') (hF2.keep hW.fresh') (by omega) (by omega) hm hls hpl).mono fun v w' q => ⟨by rw [q.1, hbe, hfr], q.2⟩) fun v hv => ⟨.tup [.val (.int .i64 (fr.getD 0 : Nat)), .val (.bool fr.isNone)], by rw [hv]; simp [Is, IsL], ?_⟩
  (refine Y_go 600 ?_; dsimp only [zq8t, Y_k, zq4u, zq8o, zq6n, Nat.reduceBEq, zq6k, YK, zq5j, zq2f, nth, zq2e, zq6l, zq9i, normF, zq6m, zq8a, zq86, zq87, zq89, zq9y, t10n3, T10n3, zq9r, zq9q, zq9j])
  refine call_base (vs := [.slice A h.length c, .slice A' first.length c', .int .i64 ws]) rfl (R := fun W v w' => ∃ S sc, v = .tuple #[.slice S x.length sc, .int .i64 f] ∧ RowAt w' S (x.map uV) ∧ Fresh W w') (fun W hW => h43 W (hA2.keep hW.fresh') (hF2.keep hW.fresh')) (fun _ _ _ ⟨_, _, _, _, hf⟩ => hf) fun W v W3 hW ⟨S3, sc3, hv, hS3, hf3⟩ ov3 => ?_
  refine ⟨.tup [.val (.slice S3 x.length sc3), .val (.int .i64 f)], by rw [hv]; simp [Is, IsL], ?_⟩
  have f3 : Fresh W2 W3 := hW.fresh'.tr hf3
  have hF3 := hF2.keep f3
  have hO3 := hO2.keep f3
  have hS2 := hS.keep f3
  simp only [putF] at ov3 ⊢
  show G _ ⟨W3, W3.heap.size, [], 106, []⟩ _ _
  (refine Y_go 600 ?_; dsimp only [Y_k, zq4u, zq8o, zq6n, Nat.reduceBEq, zq6k, YK, zq8t, zq5j, zq2f, nth, zq2e, zq6l, zq9i, normF, zq6m, zq8a, zq86, zq87, zq89, zq9y, t10n2, T10n2, zq9r, zq9q, zq50, zq8p, zq6q, zq04, zq92, zq9b, zq0i, zq9c, Y_gk, zq6d, YR, zq69, zq4v, zq6p, zq0b, zq51, zq8w, zq0k, zq9l, YG, YS, zq6b, zq0c, zq9x])
  have hf1 : Fresh w W1 := (hov1.heap (heapOk_nil (w := W1) (N := W1.heap.size) (Nat.le_refl _) (fps []) 106 [])).fresh'
  refine ⟨fun _ => ⟨fun _ => ⟨fun _ => ⟨fun _ => ?_, fun q => absurd q (by simp)⟩, fun q => absurd q (by simp)⟩, fun q => absurd q (by simp)⟩, fun q => absurd q (by decide)⟩
  refine call_val (R := fun v => v = .bool true) (vs := [.slice S x.length sc, .slice S3 x.length sc3]) rfl (fun W hW => (words44 S S3 sc sc3 x x W (hS2.keep hW.fresh') (hS3.keep hW.fresh') hxl).mono fun v w' q => ⟨by rw [q.1]; simp, q.2⟩) fun v hv => ⟨.bt, by rw [hv]; simp [Is], ?_⟩
  (refine Y_go 600 ?_; dsimp only [zq8t, Y_k, zq4v, zq8o, zq6n, Nat.reduceBEq, zq6k, zq8p, zq6p, zq6l, zq0b, YK, zq4u, Y_gk, zq69, YR, zq9l, YG])
  refine call_val (R := fun v => v = .bool true) (vs := [.slice A1 first.length c1, .slice A' first.length c']) rfl (fun W hW => (words44 A1 A' c1 c' first first W (hO3.keep hW.fresh') (hF3.keep hW.fresh') (by omega)).mono fun v w' q => ⟨by rw [q.1]; simp, q.2⟩) fun v hv => ⟨.bt, by rw [hv]; simp [Is], ?_⟩
  (refine Y_go 600 ?_; dsimp only [zq8t, Y_k, zq4v, zq8o, zq6n, Nat.reduceBEq, zq6k, zq8p, zq6p, zq6l, zq0b, YK, zq4u, zq9i, normF, zq6m, zq8a, zq86, zq87, zq89, zq9x])
  exact ret_rule (vs := [.bool true]) r10 rfl rfl fun W hW => hR _ _ ⟨rfl, hf1.tr (f2.tr (f3.tr hW.fresh'))⟩
end Go.Proofs.Ytnedgfkgmdoahaa
