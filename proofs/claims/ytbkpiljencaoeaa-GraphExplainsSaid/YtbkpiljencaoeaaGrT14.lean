/- GraphExplains: the law's function. -/
import Derived.Test.YtbkpiljencaoeaaGrT11
import Derived.Test.YtbkpiljencaoeaaGHsJ6
import Derived.Test.YtbkpiljencaoeaaGrReach
import Derived.Test.YtbkpiljencaoeaaGrAl
import Derived.Test.YtbkpiljencaoeaaGrCodeN
set_option linter.unusedSimpArgs false
set_option linter.unusedVariables false
set_option linter.unnecessarySimpa false
namespace Go.Proofs.Ytbkpiljencaoeaa
open Go Go.Sx Go.Hs Go.Gr
set_option maxRecDepth 100000
theorem frst_some {p : Nat → Bool} : ∀ {n : Nat}, frst p n = none → ∀ k, k < n → p k = false
 | 0, _, _, h => by omega
 | n + 1, h, k, hk => by
  simp only [frst] at h
  cases h1 : frst p n with
  | some m => rw [h1] at h; cases h
  | none =>
   rw [h1] at h
   by_cases e : k = n
   ·subst e
    cases h2 : p k with
    | false => rfl
    | true => simp [h2] at h
   ·exact frst_some h1 k (by omega)
theorem law8 (A F : Option Addr) (c fc : Nat) (h : List Ev) (first : List Int) (w : World) (hA : RowAt w A (cellsE h)) (hF : RowAt w F (first.map uV)) :
  CallsV Try.prog 8 [.slice A h.length c, .slice F first.length fc] w fun v w' => v = .bool true ∧ Fresh w w' := by
 refine calls_go (keep := K8) (nt := 85) (svs := [.val (.slice A h.length c), .val (.slice F first.length fc)]) Try.func8 x8 n8 (by simp) (by simp [IsL, Is]) fun R hR => ?_
 (refine Y_go 600 ?_; dsimp only [X8, numF, Nat.reduceAdd, zq9r, zq9q, Y_k, zq4u, zq8p, zq6p, YK, zq8t, zq9i, normF, zq6n, Nat.reduceBEq, zq6l, zq6k, zq6m, zq86, zq8a, zq87, zq9y, t8n11, T8n11, zq9j])
 refine call_base (vs := []) rfl (R := fun W v w' => v = .bool true ∧ Fresh W w') (fun W hW => alive9 W) (fun _ _ _ hr => hr.2) fun W v W1 hW ⟨hv, _⟩ ov => ?_
 refine ⟨.bt, by rw [hv]; simp [Is], ?_⟩
 have hAE := (rowE0 hA 85 []).over ov
 have hFE := (rowE0 hF 85 []).over ov
 clear hW hv
 dsimp only [zq8t]
 (refine Y_go 600 ?_; dsimp only [Y_k, zq4u, zq8o, zq6n, Nat.reduceBEq, zq6k, YK, zq8t, zq9i, normF, zq6l, zq6m, zq86, zq89, zq8a, zq87, zq9y, t8n10, T8n10, zq9r, zq9q, zq55, zq0r, zq50, zq8p, zq6q, zq04, zq92, zq9b, zq0i, zq9g, Y_gk, zq6e, YS, zq6a, zq4v, zq6o, zq0b, zq9s, zq6f, YC, t8n0, T8n0, zq9x, YR, zq6c, zq0c, zq53, zq0m, zq6g, zq9p, t8n9, T8n9, zq9j])
 have yes : ∀ (E : Env) s, E.marks = [] → Over ⟨w, w.heap.size, [], 85, []⟩ E → denAll s.H s.F [4] = some [.bool true] → RetG (cxOf Try.prog Try.f8 K8 T8 R) E s := fun E s hm ho h1 => ret_rule (vs := [.bool true]) r8 hm h1 fun W hW => hR _ _ ⟨rfl, (ho.heap hW).fresh'⟩
 refine ⟨fun _ => yes _ _ rfl ov rfl, fun h1 => ⟨fun _ => yes _ _ rfl ov rfl, fun h2 => ?_⟩⟩
 have hl : h.length ≤ 200 := by have := of_decide_eq_false h1; omega
 have hfl : first.length ≤ 1000 := by have := of_decide_eq_false h2; omega
 refine call_base (vs := [.slice A h.length c]) rfl (R := fun W v w' => OfR h v w' ∧ Fresh W w') (fun W hW => of18 A c h W (hAE.at hW) (by omega)) (fun _ _ _ hr => hr.2) fun W v W2 hW ⟨hr, _⟩ ov2 => ?_
 replace hAE := hAE.over ov2
 replace hFE := hFE.over ov2
 replace ov := ov.trans ov2
 clear ov2 hW
 rcases hr with ⟨hs, hv⟩ | ⟨l, B, bc, hs, hv, hB⟩
 ·refine ⟨.tup [.val (.int .i64 0), .val (.slice none 0 0), .val (.int .i64 120)], by rw [hv]; simp [Is, IsL], ?_⟩
  dsimp only [zq8t]
  (refine Y_go 600 ?_; dsimp only [Y_k, zq4u, zq8o, zq6n, Nat.reduceBEq, zq6k, YK, zq8t, zq5j, zq2f, nth, zq2e, zq6l, zq9i, normF, zq6m, zq86, zq8a, zq87, zq89, zq9y, t8n8, T8n8, zq9r, zq9q, zq50, zq8p, zq6q, zq04, zq92, zq9b, zq0i, zq9d, zq9s, zq6h, zq8x, YC, t8n1, T8n1, zq9x, zq9p, t8n7, T8n7, zq9j])
  exact ⟨fun _ => yes _ _ rfl ov rfl, fun hb => absurd hb (by decide)⟩
 refine ⟨.tup [.val (.int .i64 l.length), .val (.slice B (edL l).length bc), .val (.int .i64 0)], by rw [hv]; simp [Is, IsL], ?_⟩
 have hBE := rowE0 hB 85 []
 clear hv hB
 obtain ⟨l0, hs0, hll, _⟩ := comO_some hs
 have hl2 : l.length ≤ 200 := by
  have h3 : l.length ≤ l0.length := by rw [hll]; exact List.length_filter_le _ _
  unfold splitL at hs0
  cases hq : sp h h.length with
  | none => rw [hq] at hs0; cases hs0
  | some s =>
   rw [hq] at hs0; injection hs0 with hs0
   have hs0 : s.out = l0 := hs0
   have := (sp_ok hq).len
   rw [hs0] at this
   omega
 have ht := tmL_of hs0
 rw [← hll] at ht
 have hok := edL_ok ht hl2
 have hfull := ord_full ht hl2
 have hoO := ord_okO ht hl2
 dsimp only [zq8t]
 (refine Y_go 600 ?_; dsimp only [Y_k, zq4u, zq8o, zq6n, Nat.reduceBEq, zq6k, YK, zq8t, zq5j, zq2f, nth, zq2e, zq6l, zq9i, normF, zq6m, zq86, zq8a, zq87, zq89, zq9y, t8n8, T8n8, zq9r, zq9q, zq50, zq8p, zq6q, zq04, zq92, zq9b, zq0i, zq9d, zq9s, zq6h, zq8x, YC, t8n1, T8n1, zq9x, zq9p, t8n7, T8n7, zq9j])
 refine ⟨fun hb => absurd hb (by decide), fun _ => ?_⟩
 refine call_base (vs := [.int .i64 l.length, .slice B (edL l).length bc]) rfl (R := fun W v w' => (∃ D dc, v = .tuple #[.slice D (ordL (edL l) l.length).length dc, .int .i64 0] ∧ RowAt w' D (isV (ordL (edL l) l.length))) ∧ Fresh W w') (fun W hW => (order10 B bc l.length (edL l) W (hBE.at hW)).mono ?_) (fun _ _ _ hr => hr.2) fun W v W3 hW ⟨⟨D, dc, hv, hD⟩, _⟩ ov2 => ?_
 ·rintro v w' ⟨⟨h4, _⟩ | ⟨_, h4, _⟩ | ⟨_, _, D, dc, hv, ho⟩, hf⟩
  ·exact absurd hok h4
  ·rw [Int.toNat_natCast] at h4; omega
  ·rw [Int.toNat_natCast] at hv ho
   exact ⟨⟨D, dc, hv, RowAt.of_own ho rfl⟩, hf⟩
 refine ⟨.tup [.val (.slice D (ordL (edL l) l.length).length dc), .val (.int .i64 0)], by rw [hv]; simp [Is, IsL], ?_⟩
 replace hAE := hAE.over ov2
 replace hFE := hFE.over ov2
 replace ov := ov.trans ov2
 have hDE := rowE0 hD 85 []
 clear ov2 hW hv hD hBE
 dsimp only [zq8t]
 (refine Y_go 600 ?_; dsimp only [Y_k, zq4u, zq8o, zq6n, Nat.reduceBEq, zq6k, YK, zq8t, zq5j, zq2f, nth, zq2e, zq6l, zq9i, normF, zq6m, zq86, zq8a, zq87, zq89, zq9y, t8n6, T8n6, zq9r, zq9q, zq9j])
 refine call_base (vs := [.slice A h.length c, .slice F first.length fc]) rfl (R := fun W v w' => v = judR h l0 first ∧ Fresh W w') (fun W hW => (judge40 A F c fc h first W (hAE.at hW) (hFE.at hW) (by omega) (by omega)).mono ?_) (fun _ _ _ hr => hr.2) fun W v W4 hW ⟨hv, _⟩ ov2 => ?_
 ·rintro v w' ⟨⟨h4, _⟩ | ⟨l1, h4, hv⟩, hf⟩
  ·rw [hs0] at h4; cases h4
  ·rw [hs0] at h4; injection h4 with h4; subst h4
   exact ⟨hv, hf⟩
 unfold judR at hv
 refine ⟨.tup [.val (.int .i64 ((frst (badAt h l0 (begL first)) h.length).getD 0 : Nat)), .val (.bool (frst (badAt h l0 (begL first)) h.length).isNone), .val (.int .i64 0)], by rw [hv]; simp [Is, IsL], ?_⟩
 replace hAE := hAE.over ov2
 replace hFE := hFE.over ov2
 replace hDE := hDE.over ov2
 replace ov := ov.trans ov2
 clear ov2 hW hv
 dsimp only [zq8t]
 (refine Y_go 600 ?_; dsimp only [Y_k, zq4u, zq8o, zq6n, Nat.reduceBEq, zq6k, YK, zq8t, zq5j, zq2f, nth, zq2e, zq6l, zq9i, normF, zq6m, zq86, zq8a, zq87, zq89, zq9y, t8n5, T8n5, zq9r, zq9q, zq9j])
 refine call_base (vs := [.slice A h.length c, .slice F first.length fc, .slice D (ordL (edL l) l.length).length dc]) rfl (R := fun W v w' => v = .tuple #[.bool (exA h first (ordL (edL l) l.length)).1, .int .i64 (exA h first (ordL (edL l) l.length)).2] ∧ Fresh W w') (fun W hW => explains20 A F D c fc dc h first (ordL (edL l) l.length) W (hAE.at hW) (hFE.at hW) (hDE.at hW) (by omega) (by omega) (by omega)) (fun _ _ _ hr => hr.2) fun W v W5 hW ⟨hv, _⟩ ov2 => ?_
 replace ov := ov.trans ov2
 have hex : exA h first (ordL (edL l) l.length) = if h.any plainB = true then (false, 120) else (exM l (begL first) (ordL (edL l) l.length), 0) := by
  unfold exA; rw [hs]
  simp only [if_pos hoO]
 clear ov2 hW hAE hFE hDE
 cases hp : h.any plainB with
 | true =>
  rw [if_pos hp] at hex
  rw [hex] at hv
  refine ⟨.tup [.bf, .val (.int .i64 120)], by rw [hv]; simp [Is, IsL], ?_⟩
  clear hv
  dsimp only [zq8t]
  (refine Y_go 600 ?_; dsimp only [Y_k, zq4u, zq8o, zq6n, Nat.reduceBEq, zq6k, YK, zq8t, zq5j, zq2f, nth, zq2e, zq6l, zq9i, normF, zq6m, zq86, zq8a, zq87, zq89, zq9y, t8n4, T8n4, zq9r, zq9q, zq50, zq8p, zq6q, zq04, zq92, zq9b, zq0i, zq9d, Y_gk, zq6e, YS, zq6a, zq4v, zq6o, zq0b, zq02, zq9s, zq6f, YC, t8n2, T8n2, zq6p, zq9x, YR, zq6c, zq0c, zq6d, zq69, zq6h, zq8x, zq9p, t8n3, T8n3, zq53, zq0o, zq9c, zq6b, zq6g])
  repeat' first
   | (refine ⟨fun q => ?_, fun q => ?_⟩ <;> try exact absurd q (by decide))
   | exact yes _ _ rfl ov rfl
   | fail
 | false =>
  rw [if_neg (by rw [hp]; simp)] at hex
  rw [hex] at hv
  have hjx : (frst (badAt h l0 (begL first)) h.length).isNone = true → exM l (begL first) (ordL (edL l) l.length) = true := fun hj => by
   have hj : frst (badAt h l0 (begL first)) h.length = none := by simpa using hj
   have := explains_ord hs0 (by rw [← hll]; exact hl2) hp (frst_some hj)
   rw [← hll] at this
   exact this
  refine ⟨.tup [.val (.bool (exM l (begL first) (ordL (edL l) l.length))), .val (.int .i64 0)], by rw [hv]; simp [Is, IsL], ?_⟩
  clear hv
  generalize exM l (begL first) (ordL (edL l) l.length) = x at *
  generalize (frst (badAt h l0 (begL first)) h.length).isNone = j at *
  dsimp only [zq8t]
  (refine Y_go 600 ?_; dsimp only [Y_k, zq4u, zq8o, zq6n, Nat.reduceBEq, zq6k, YK, zq8t, zq5j, zq2f, nth, zq2e, zq6l, zq9i, normF, zq6m, zq86, zq8a, zq87, zq89, zq9y, t8n4, T8n4, zq9r, zq9q, zq50, zq8p, zq6q, zq04, zq92, zq9b, zq0i, zq9d, Y_gk, zq6e, YS, zq6a, zq4v, zq6o, zq0b, zq02, zq9s, zq6f, YC, t8n2, T8n2, zq6p, zq9x, YR, zq6c, zq0c, zq6d, zq69, zq6h, zq8x, zq9p, t8n3, T8n3, zq53, zq0o, zq9c, zq6b, zq6g])
  have last : j = true → ∀ s, denAll s.H s.F [4] = some [.bool x] → RetG (cxOf Try.prog Try.f8 K8 T8 R) ⟨W5, W5.heap.size, [], 85, []⟩ s := fun hj s h4 => by
   rw [hjx hj] at h4
   exact yes _ _ rfl ov h4
  cases j
  all_goals repeat' first
   | (refine ⟨fun q => ?_, fun q => ?_⟩ <;> try exact absurd q (by decide))
   | exact yes _ _ rfl ov rfl
   | exact last rfl _ rfl
   | fail
end Go.Proofs.Ytbkpiljencaoeaa
