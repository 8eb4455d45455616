/- The document's graphs (4): an order. -/
import Derived.Test.YtbkpiljencaoeaaGrR3
import Derived.Test.YtbkpiljencaoeaaGrPlain
import Derived.Test.YtbkpiljencaoeaaGrCode
set_option linter.unusedSimpArgs false
set_option linter.unusedVariables false
set_option linter.unnecessarySimpa false
namespace Go.Proofs.Ytbkpiljencaoeaa
open Go Go.Sx Go.Gr
set_option maxRecDepth 100000
theorem rightC {C : Cx} {E : Env} {d : Option Nat} {args : List Operand} {ls : List XS} {k : List KI} {F : List (Nat × SV)} (A : Option Addr) (c n : Nat) (l : List Ed) (hP : C.P = Try.prog) (hA : RowE E A (cellsD l)) (hok : okG n l) (hst : E.stolen = [])
  (hargs : denL [] (evL F args) = some [.int .i64 n, .slice A l.length c]) (hF : leF 0 F F)
  (next : ∀ W B gs, RowE ⟨W, W.heap.size, [], E.nt, E.marks⟩ B (tabV gs n n) → (∀ a, a < n → RowE ⟨W, W.heap.size, [], E.nt, E.marks⟩ (some ⟨gs a, 0, none⟩) (rwV n (rgB l a))) → Over E ⟨W, W.heap.size, [], E.nt, E.marks⟩ → G C ⟨W, W.heap.size, [], E.nt, E.marks⟩ (.ops ls :: k) { F := putF F d (.val (.slice B n n)), H := [] }) :
  G C E (.ops ({ dst := d, guard := none, i := .call 30 args } :: ls) :: k) { F := F, H := [] } := by
 refine call_base hargs (R := fun W v w' => ∃ B gs, v = .slice B n n ∧ TabAt w' B gs (rgB l) n n ∧ Fresh W w') (fun W hW => ?_) (fun _ _ _ ⟨_, _, _, _, h⟩ => h) fun W v W' hW ⟨B, gs, hv, hT, _⟩ ov => ?_
 ·rw [hP]
  refine (right30 A c n l W (hA.at hW) hok).mono ?_
  rintro v w' ⟨g, gs, hv, hh⟩
  exact ⟨_, gs, hv, HeapOk.tab (b := []) hh, hh.fresh'⟩
 ·obtain ⟨h1, h2⟩ := tabE hT E.nt E.marks
  exact ⟨.val (.slice B n n), by rw [hv]; rfl, next W' B gs h1 h2 ov⟩
theorem order14 (A : Option Addr) (c n : Nat) (l : List Ed) (w : World) (hA : RowAt w A (cellsD l)) (hok : okG n l) :
  CallsV Try.prog 14 [.int .i64 n, .slice A l.length c] w fun v w' => (((ordL l n).length < n ∧ v = .tuple #[.slice none 0 0, .int .i64 250]) ∨
   (¬ (ordL l n).length < n ∧ ∃ B bc, v = .tuple #[.slice B (ordL l n).length bc, .int .i64 0] ∧ World.ownsB w' w.heap.size 3 1 (.slice B (ordL l n).length bc) (ordL l n).length (isV (ordL l n)))) ∧ Fresh w w' := by
 refine calls_go (keep := K14) (nt := 67) (svs := [.val (.int .i64 n), .val (.slice A l.length c)]) Try.func14 x14 n14 (by simp) (by simp [IsL, Is]) fun R hR => ?_
 have hn5 : n ≤ 500 := by have := hok.2.1; omega
 (refine Y_go 600 ?_; dsimp only [X14, numF, Nat.reduceAdd, zq9r, zq9q, Y_k, zq4u, zq8p, zq6u, YK, zq8t, zq6q, zq9i, normF, zq6n, Nat.reduceBEq, zq6l, zq6k, zq6m, zq86, zq87, zq9y, t14n20, T14n20, zq8o, zq9j])
 refine rightC A c n l rfl (hA.toE (st := []) (by simp) 67 []) hok rfl rfl (by (simp only [setn, List.nil_append, List.cons_append, leF, leH_nil, leH_cons, leF_nil, lk, scp, scpL, scpO, resF, resH, resO, resV, resVL, nth, Nat.reduceBEq, Nat.reduceLT, decide_true, decide_false, List.length, List.length_cons, List.length_nil, Nat.reduceAdd, Bool.and_self, Bool.and_true, and_true, true_and, numF] <;> try simp)) fun W T gs hT hrow ov => ?_
 dsimp only [zq8t]
 (refine Y_go 600 ?_; dsimp only [Y_k, zq4u, zq8o, zq6n, Nat.reduceBEq, zq6k, YK, zq8t, zq9i, normF, zq6l, zq6m, zq86, zq87, zq9y, t14n19, T14n19, zq9r, zq9q, zq67, zq06, zq4t, List.length_nil, List.nil_append, zq8f, t14n18, T14n18, zq8p, zq6u, t14n17, T14n17, zq9t, zq9v])
 refine ⟨⟨by omega, by omega, by omega, by omega⟩, fun g => ?_⟩
 rw [Int.toNat_natCast, rwV_zero]
 have sT : 0 < n → T.isSome = true := fun h => hT.isSome (j := 0) (by rw [tabV_len]; exact h)
 have tt : ∀ a, a < n → CellAt ⟨W, W.heap.size, [], 67, []⟩ T (((a : Nat) : Int).toNat * 1) (.slice (some ⟨gs a, 0, none⟩) n n) := fun a ha => by
  rw [Int.toNat_natCast, Nat.mul_one]; exact hT.cell (tabV_get ha)
 have tr : ∀ a k, a < n → k < n → CellAt ⟨W, W.heap.size, [], 67, []⟩ (some ⟨gs a, 0, none⟩) (((k : Nat) : Int).toNat * 1) (.bool (rgB l a k)) := fun a k ha hk => by
  rw [Int.toNat_natCast, Nat.mul_one]; exact (hrow a ha).cell (rwV_get _ hk)
 refine loop_go (α := List Int × Option Addr × Nat) (fun q => UInv l n q.1 ∧ ordL l n = grd l n (n + 1 - q.1.length) q.1) (fun _ => ⟨W, W.heap.size, [], 67, []⟩)
  (fun q => { F := [(0, .val (.int .i64 n)), (6, .val (.slice T n n)), (7, .own 0 0), (8, .own 1 0)], H := [.own 4 0 1 (some ⟨g, 0, none⟩) n n (rwV n fun i => q.1.contains (i : Int)), .own 3 0 1 q.2.1 q.1.length q.2.2 (isV q.1)] }) (fun q => n - q.1.length) (fun _ => rfl) ?start ?round
 case start =>
  intro a W rep
  refine ⟨([], none, 0), ⟨UInv.nil l n, rfl⟩, ?_⟩
  have e0 : (rwV n fun i => ([] : List Int).contains (i : Int)) = rwV n fun _ => false := rwV_congr fun _ _ => rfl
  simp only [e0]
  exact (rep.adopt 8 3 1 rfl).le (by (simp only [setn, List.nil_append, List.cons_append, leF, leH_nil, leH_cons, leF_nil, lk, scp, scpL, scpO, resF, resH, resO, resV, resVL, nth, Nat.reduceBEq, Nat.reduceLT, decide_true, decide_false, List.length, List.length_cons, List.length_nil, Nat.reduceAdd, Bool.and_self, Bool.and_true, and_true, true_and, numF] <;> try simp)) (by (simp only [setn, List.nil_append, List.cons_append, leF, leH_nil, leH_cons, leF_nil, lk, scp, scpL, scpO, resF, resH, resO, resV, resVL, nth, Nat.reduceBEq, Nat.reduceLT, decide_true, decide_false, List.length, List.length_cons, List.length_nil, Nat.reduceAdd, Bool.and_self, Bool.and_true, and_true, true_and, numF] <;> try simp); rfl)
 case round =>
  rintro ⟨u, B, bc⟩ ⟨hu, hg⟩ I again
  simp only at hu hg ⊢
  have hul := hu.len
  (refine Y_go 600 ?_; dsimp only [zq9y, t14n15, T14n15, zq9r, zq9q, Y_k, zq4u, zq8o, zq6n, Nat.reduceBEq, zq6l, zq6k, YK, zq8t, zq55, zq0t, nth, zq09, zq08, zq0q, zq50, zq04, zq92, zq9b, zq0i, zq9e, zq9i, normF, zq6m, zq86, zq87, zq8f, zq9s, zq6h, zq8x, YC, zq9p, t14n14, T14n14, zq9t, zq8p, zq6q, zq89, t14n13, T14n13, zq4w, zq0e, zq9v, zq9u, popTo, zq6i, YP, t14n16, T14n16, zq8a, zq9x])
  refine ⟨fun hlt => ?_, fun hge => ?_⟩
  ·have hlt : u.length < n := by have := of_decide_eq_true hlt; omega
   have hsub : ArOk .sub .i64 (n : Int) 1 ((n : Int) - 1) := ArOk.toSub rfl (by omega) (by omega)
   refine ⟨_, hsub, ?_⟩
   refine loop_go (α := Nat) (fun i0 => i0 ≤ n) (fun _ => ⟨W, W.heap.size, [], 67, []⟩)
    (fun i0 => { F := [(0, .val (.int .i64 n)), (6, .val (.slice T n n)), (7, .own 0 0), (8, .own 1 0), (9, .val (.int .i64 (lstF (freeB l u) n (n - i0)))), (10, .val (.int .i64 ((i0 : Int) - 1)))], H := [.own 4 0 1 (some ⟨g, 0, none⟩) n n (rwV n fun i => u.contains (i : Int)), .own 3 0 1 B u.length bc (isV u)] }) (fun i0 => i0) (fun _ => rfl) ?start2 ?round2
   case start2 =>
    intro a W rep
    refine ⟨n, Nat.le_refl _, ?_⟩
    simp only [Nat.sub_self, lstF]
    exact rep.le (by (simp only [setn, List.nil_append, List.cons_append, leF, leH_nil, leH_cons, leF_nil, lk, scp, scpL, scpO, resF, resH, resO, resV, resVL, nth, Nat.reduceBEq, Nat.reduceLT, decide_true, decide_false, List.length, List.length_cons, List.length_nil, Nat.reduceAdd, Bool.and_self, Bool.and_true, and_true, true_and, numF] <;> try simp)) (by (simp only [setn, List.nil_append, List.cons_append, leF, leH_nil, leH_cons, leF_nil, lk, scp, scpL, scpO, resF, resH, resO, resV, resVL, nth, Nat.reduceBEq, Nat.reduceLT, decide_true, decide_false, List.length, List.length_cons, List.length_nil, Nat.reduceAdd, Bool.and_self, Bool.and_true, and_true, true_and, numF] <;> try simp))
   case round2 =>
    rintro i0 hi0 I2 again2
    by_cases h0 : i0 = 0
    ·subst h0
     simp only [Nat.sub_zero]
     rw [lstF_all]
     have hps : pickN l n u = (List.range n).findIdx (freeB l u) := pickB_eq l n u
     rw [← hps]
     have hsp := findIdx_spec (p := freeB l u) (n := n)
     rw [← hps] at hsp
     obtain ⟨f, hf⟩ : ∃ f, n + 1 - u.length = f + 1 := ⟨n - u.length, by omega⟩
     have hgrd : ordL l n = if pickN l n u < n then grd l n f (u ++ [(pickN l n u : Int)]) else u := by rw [hg, hf]; rfl
     generalize pickN l n u = p at hsp hgrd ⊢
     by_cases hp : p < n
     ·rw [if_pos hp] at hgrd ⊢
      (refine Y_go 600 ?_; dsimp only [zq9y, t14n8, T14n8, zq9r, zq9q, Y_k, zq4u, zq8o, zq6n, Nat.reduceBEq, zq6l, zq6k, YK, zq8t, zq50, zq8p, zq6q, zq04, zq92, zq9b, zq0i, zq9h, zq9i, normF, zq6m, zq86, zq87, zq8f, zq9s, zq6h, zq8x, YC, zq9p, t14n7, T14n7, zq9t, zq58, zq06, zq0y, nth, zq09, zq08, zq0v, zq5c, zq1q, zq1n, zq1d, List.nil_append, zq1b, zq18, zq53, zq0o, zq89, t14n5, T14n5, zq9v, zq9u, popTo, zq6i, YP, t14n12, T14n12, zq9e, zq8a, t14n9, T14n9, zq6u, zq9x, t14n11, T14n11, zq5d, zq6o, zq7v, zq7h, zq0a, zq1y, zq1w, denL, den, zq1v, splice, setn, zq8s, t14n10, T14n10, zq5h, List.map, repL, List.cons_append, zq23, Nat.reduceMul, zq7u, zq73, dropL, takeL, zq20, zq24, zq26, List.length_cons, List.length_nil, Nat.reduceAdd, zq5l, zq2w, zq2s, zq2r, zq2n, zq2j, zq2k, zq8l, zq8m, zq8k, zq2l, zq2h, zqa1, zqa2])
      obtain ⟨hp0, hpz⟩ : p < n ∧ ahU l u p = 0 := by
       rcases hsp with ⟨_, h⟩ | ⟨h1, h2, _⟩
       ·omega
       ·rw [← freeB_iff] at h2; exact ⟨h1, by simpa using h2⟩
      refine ⟨fun h => absurd (of_decide_eq_true h) (by omega), fun _ => ⟨fun h => absurd (of_decide_eq_true h) (by omega), fun _ => ⟨⟨by omega, by omega⟩, by rw [rwV_len, Int.toNat_natCast]; omega, fun g1 => ⟨⟨by simp only [maxLen]; omega, by omega⟩, fun B2 bc2 => lend_rule fun a W2 rep => again (u ++ [(p : Int)], B2, bc2) ⟨hu.snoc hp0 hpz, ?_⟩ (by simp only [List.length_append, List.length_singleton]; omega) a W2 ?_⟩⟩⟩⟩
      ·rw [hgrd, List.length_append, List.length_singleton, show n + 1 - (u.length + 1) = f by omega]
      ·rw [Int.toNat_natCast, Nat.mul_one, rwV_set _ _ hp0] at rep
       have e1 : (rwV n fun j => if j = p then true else u.contains (j : Int)) = rwV n fun i => (u ++ [(p : Int)]).contains (i : Int) := rwV_congr fun j _ => by
        by_cases hj : j = p
        ·subst hj; simp
        ·have : ¬ (j : Int) = p := by omega
         simp [hj, this]
       rw [e1] at rep
       have e2 : isV (u ++ [(p : Int)]) = isV u ++ [.int .i64 p] := by simp [isV]
       simp only [e2, List.length_append, List.length_singleton]
       exact rep.res.le (by (simp only [setn, List.nil_append, List.cons_append, leF, leH_nil, leH_cons, leF_nil, lk, scp, scpL, scpO, resF, resH, resO, resV, resVL, nth, Nat.reduceBEq, Nat.reduceLT, decide_true, decide_false, List.length, List.length_cons, List.length_nil, Nat.reduceAdd, Bool.and_self, Bool.and_true, and_true, true_and, numF] <;> try simp)) (by (simp only [setn, List.nil_append, List.cons_append, leF, leH_nil, leH_cons, leF_nil, lk, scp, scpL, scpO, resF, resH, resO, resV, resVL, nth, Nat.reduceBEq, Nat.reduceLT, decide_true, decide_false, List.length, List.length_cons, List.length_nil, Nat.reduceAdd, Bool.and_self, Bool.and_true, and_true, true_and, numF] <;> try simp))
     ·rw [if_neg hp] at hgrd ⊢
      (refine Y_go 600 ?_; dsimp only [zq9y, t14n8, T14n8, zq9r, zq9q, Y_k, zq4u, zq8o, zq6n, Nat.reduceBEq, zq6l, zq6k, YK, zq8t, zq50, zq8p, zq6q, zq04, zq92, zq9b, zq0i, zq9h, zq9i, normF, zq6m, zq86, zq87, zq8f, zq9s, zq6h, zq8x, YC, zq9p, t14n7, T14n7, zq9t, zq58, zq06, zq0y, nth, zq09, zq08, zq0v, zq5c, zq1q, zq1n, zq1d, List.nil_append, zq1b, zq18, zq53, zq0o, zq89, t14n5, T14n5, zq9v, zq9u, popTo, zq6i, YP, t14n12, T14n12, zq9e, zq8a, t14n9, T14n9, zq6u, zq9x, t14n11, T14n11, Int.reduceToNat, Nat.reduceMul, zq5d, zq6o, zq7v, zq7h, zq0a, zq1y, zq1w, denL, den, zq1v, Nat.reduceAdd, splice, setn, zq8s, t14n10, T14n10, zq5h, List.map, repL, List.cons_append, zq23, zq7u, zq73, dropL, takeL, zq20, zq24, zq26, List.length_cons, List.length_nil, zq5l, zq2w, zq2s, zq2r, zq2n, zq2j, zq2k, zq8l, zq8m, zq8k, zq2l, zq2h, zqa1, zqa2])
      refine ⟨fun h => absurd (of_decide_eq_true h) (by omega), fun _ => ⟨fun _ => ?_, fun h => absurd h (by decide)⟩⟩
      exact ret_rule (vs := [.slice none 0 0, .int .i64 250]) r14 rfl rfl fun W2 hW2 => hR _ _ ⟨.inl ⟨by rw [hgrd]; exact hlt, rfl⟩, (ov.heap hW2).fresh'⟩
    ·obtain ⟨i, rfl⟩ : ∃ i, i0 = i + 1 := ⟨i0 - 1, by omega⟩
     rw [show ((i + 1 : Nat) : Int) - 1 = (i : Int) by omega]
     have hin : i < n := by omega
     have hus : ∀ k, k < n → (rwV n fun i => u.contains (i : Int))[((k : Nat) : Int).toNat * 1]? = some (.bool (u.contains (k : Int))) := fun k hk => by rw [Int.toNat_natCast, Nat.mul_one]; exact rwV_get _ hk
     (refine Y_go 600 ?_; dsimp only [zq9y, t14n8, T14n8, zq9r, zq9q, Y_k, zq4u, zq8o, zq6n, Nat.reduceBEq, zq6l, zq6k, YK, zq8t, zq50, zq8p, zq6q, zq04, zq92, zq9b, zq0i, zq9h, zq9i, normF, zq6m, zq86, zq87, zq8f, zq9s, zq6h, zq8x, YC, zq9p, t14n7, T14n7, zq9t, zq58, zq06, zq0y, nth, zq09, zq08, zq0v, zq5c, zq1q, zq1n, zq1d, List.nil_append, zq1b, zq18, zq53, zq0o, zq89, t14n5, T14n5, zq9v, zq9u, popTo, zq6i, YP, t14n12, T14n12, zq9e, zq8a, t14n9, T14n9, zq6u, zq9x, t14n11, T14n11, zq5d, zq6o, zq7v, zq7h, zq0a, zq1y, zq1w, denL, den, zq1v, splice, setn, zq8s, t14n10, T14n10, zq5h, List.map, repL, List.cons_append, zq23, Nat.reduceMul, zq7u, zq73, dropL, takeL, zq20, zq24, zq26, List.length_cons, List.length_nil, Nat.reduceAdd, zq5l, zq2w, zq2s, zq2r, zq2n, zq2j, zq2k, zq8l, zq8m, zq8k, zq2l, zq2h, zqa1, zqa2])
     refine ⟨fun _ => ⟨⟨by omega, by omega⟩, _, hus i hin, ?_⟩, fun h => absurd (of_decide_eq_false h) (by omega)⟩
     refine loop_go (α := Nat) (fun k => k ≤ n) (fun _ => ⟨W, W.heap.size, [], 67, []⟩)
      (fun k => { F := [(0, .val (.int .i64 n)), (6, .val (.slice T n n)), (7, .own 0 0), (8, .own 1 0), (9, .val (.int .i64 (lstF (freeB l u) n (n - (i + 1))))), (10, .val (.int .i64 i)), (11, .val (.bool (freK l u i k))), (12, .val (.int .i64 k))], H := [.own 4 0 1 (some ⟨g, 0, none⟩) n n (rwV n fun i => u.contains (i : Int)), .own 3 0 1 B u.length bc (isV u)] }) (fun k => n - k) (fun _ => rfl) ?start3 ?round3
     case start3 =>
      intro a W rep
      refine ⟨0, Nat.zero_le _, ?_⟩
      rw [freK_zero]
      exact rep.le (by (simp only [setn, List.nil_append, List.cons_append, leF, leH_nil, leH_cons, leF_nil, lk, scp, scpL, scpO, resF, resH, resO, resV, resVL, nth, Nat.reduceBEq, Nat.reduceLT, decide_true, decide_false, List.length, List.length_cons, List.length_nil, Nat.reduceAdd, Bool.and_self, Bool.and_true, and_true, true_and, numF] <;> try simp)) (by (simp only [setn, List.nil_append, List.cons_append, leF, leH_nil, leH_cons, leF_nil, lk, scp, scpL, scpO, resF, resH, resO, resV, resVL, nth, Nat.reduceBEq, Nat.reduceLT, decide_true, decide_false, List.length, List.length_cons, List.length_nil, Nat.reduceAdd, Bool.and_self, Bool.and_true, and_true, true_and, numF] <;> try simp))
     case round3 =>
      rintro k hk I3 again3
      (refine Y_go 600 ?_; dsimp only [zq9y, t14n2, T14n2, zq9r, zq9q, Y_k, zq4u, zq8o, zq6n, Nat.reduceBEq, zq6l, zq6k, YK, zq8t, zq50, zq04, zq92, zq9b, zq0i, zq9e, zq9i, normF, zq6m, zq86, zq87, zq8f, zq9s, zq6h, zq8x, YC, zq9p, t14n1, T14n1, zq9t, Y_gk, zq6d, YR, zq69, zq58, zq06, zq0y, nth, zq09, zq08, zq0v, zq5c, zq1q, zq1n, zq1d, List.nil_append, zq1b, zq18, zq6e, YS, zq6a, zq4v, zq8p, zq6o, zq0b, zq6p, zq89, zqa1, t14n0, T14n0, zq4w, zq6q, zq0e, zqa2, zq6c, zq0w, zq1p, zq1g, zq53, zq0o, zq0c, zq6b, zq03, zq8a, zq9u, popTo, zq6i, YP, t14n4, T14n4, t14n3, T14n3, t14n6, T14n6])
      refine ⟨fun hlt3 => ?_, fun hge3 => ?_⟩
      ·have hkn : k < n := by have := of_decide_eq_true hlt3; omega
       have ak : ArOk .add .i64 (k : Int) 1 ((k + 1 : Nat) : Int) := ArOk.to (by omega) (by omega) (by omega)
       have hs := freK_succ l u i k
       refine ⟨fun hf => ⟨⟨by omega, by omega⟩, _, hus k hkn, fun hb => ⟨_, ak, lend_rule fun a W2 rep => again3 (k + 1) hkn (by omega) a W2 ?_⟩, fun hb => ⟨⟨by omega, by omega, sT (by omega)⟩, _, _, _, tt k hkn, ⟨by omega, by omega, rfl⟩, _, tr k i hkn hin, _, ak, lend_rule fun a W2 rep => again3 (k + 1) hkn (by omega) a W2 ?_⟩⟩, fun hf => ⟨_, ak, lend_rule fun a W2 rep => again3 (k + 1) hkn (by omega) a W2 ?_⟩⟩
       ·rw [hs, hf, hb, Bool.true_or, Bool.true_and]
        exact (rep_swap 11 (x := .bt) (y := .val (.bool true)) rep rfl (fun v h => by simpa [Is] using h)).le (by (simp only [setn, List.nil_append, List.cons_append, leF, leH_nil, leH_cons, leF_nil, lk, scp, scpL, scpO, resF, resH, resO, resV, resVL, nth, Nat.reduceBEq, Nat.reduceLT, decide_true, decide_false, List.length, List.length_cons, List.length_nil, Nat.reduceAdd, Bool.and_self, Bool.and_true, and_true, true_and, numF] <;> try simp)) (by (simp only [setn, List.nil_append, List.cons_append, leF, leH_nil, leH_cons, leF_nil, lk, scp, scpL, scpO, resF, resH, resO, resV, resVL, nth, Nat.reduceBEq, Nat.reduceLT, decide_true, decide_false, List.length, List.length_cons, List.length_nil, Nat.reduceAdd, Bool.and_self, Bool.and_true, and_true, true_and, numF] <;> try simp))
       ·rw [hs, hf, hb, Bool.false_or, Bool.true_and]
        exact rep.le (by (simp only [setn, List.nil_append, List.cons_append, leF, leH_nil, leH_cons, leF_nil, lk, scp, scpL, scpO, resF, resH, resO, resV, resVL, nth, Nat.reduceBEq, Nat.reduceLT, decide_true, decide_false, List.length, List.length_cons, List.length_nil, Nat.reduceAdd, Bool.and_self, Bool.and_true, and_true, true_and, numF] <;> try simp)) (by (simp only [setn, List.nil_append, List.cons_append, leF, leH_nil, leH_cons, leF_nil, lk, scp, scpL, scpO, resF, resH, resO, resV, resVL, nth, Nat.reduceBEq, Nat.reduceLT, decide_true, decide_false, List.length, List.length_cons, List.length_nil, Nat.reduceAdd, Bool.and_self, Bool.and_true, and_true, true_and, numF] <;> try simp))
       ·rw [hs, hf, Bool.false_and]
        exact (rep_swap 11 (x := .bf) (y := .val (.bool false)) rep rfl (fun v h => by simpa [Is] using h)).le (by (simp only [setn, List.nil_append, List.cons_append, leF, leH_nil, leH_cons, leF_nil, lk, scp, scpL, scpO, resF, resH, resO, resV, resVL, nth, Nat.reduceBEq, Nat.reduceLT, decide_true, decide_false, List.length, List.length_cons, List.length_nil, Nat.reduceAdd, Bool.and_self, Bool.and_true, and_true, true_and, numF] <;> try simp)) (by (simp only [setn, List.nil_append, List.cons_append, leF, leH_nil, leH_cons, leF_nil, lk, scp, scpL, scpO, resF, resH, resO, resV, resVL, nth, Nat.reduceBEq, Nat.reduceLT, decide_true, decide_false, List.length, List.length_cons, List.length_nil, Nat.reduceAdd, Bool.and_self, Bool.and_true, and_true, true_and, numF] <;> try simp))
      ·have hke : k = n := by have := of_decide_eq_false hge3; omega
       subst hke
       rw [freK_all hok]
       have hls : lstF (freeB l u) k (k - i) = if freeB l u i then (i : Int) else lstF (freeB l u) k (k - (i + 1)) := by
        rw [show k - i = (k - (i + 1)) + 1 by omega, lstF, show k - 1 - (k - (i + 1)) = i by omega]
       have si : ArOk .sub .i64 (i : Int) 1 ((i : Int) - 1) := ArOk.toSub rfl (by omega) (by omega)
       refine ⟨fun hf => ⟨_, si, lend_rule fun a W2 rep => again2 i (by omega) (by omega) a W2 ?_⟩, fun hf => ⟨_, si, lend_rule fun a W2 rep => again2 i (by omega) (by omega) a W2 ?_⟩⟩
       ·rw [hls, hf, if_pos rfl]
        exact rep.le (by (simp only [setn, List.nil_append, List.cons_append, leF, leH_nil, leH_cons, leF_nil, lk, scp, scpL, scpO, resF, resH, resO, resV, resVL, nth, Nat.reduceBEq, Nat.reduceLT, decide_true, decide_false, List.length, List.length_cons, List.length_nil, Nat.reduceAdd, Bool.and_self, Bool.and_true, and_true, true_and, numF] <;> try simp)) (by (simp only [setn, List.nil_append, List.cons_append, leF, leH_nil, leH_cons, leF_nil, lk, scp, scpL, scpO, resF, resH, resO, resV, resVL, nth, Nat.reduceBEq, Nat.reduceLT, decide_true, decide_false, List.length, List.length_cons, List.length_nil, Nat.reduceAdd, Bool.and_self, Bool.and_true, and_true, true_and, numF] <;> try simp))
       ·rw [hls, hf, if_neg (by decide)]
        exact rep.le (by (simp only [setn, List.nil_append, List.cons_append, leF, leH_nil, leH_cons, leF_nil, lk, scp, scpL, scpO, resF, resH, resO, resV, resVL, nth, Nat.reduceBEq, Nat.reduceLT, decide_true, decide_false, List.length, List.length_cons, List.length_nil, Nat.reduceAdd, Bool.and_self, Bool.and_true, and_true, true_and, numF] <;> try simp)) (by (simp only [setn, List.nil_append, List.cons_append, leF, leH_nil, leH_cons, leF_nil, lk, scp, scpL, scpO, resF, resH, resO, resV, resVL, nth, Nat.reduceBEq, Nat.reduceLT, decide_true, decide_false, List.length, List.length_cons, List.length_nil, Nat.reduceAdd, Bool.and_self, Bool.and_true, and_true, true_and, numF] <;> try simp))
  ·have hle : u.length = n := by have := of_decide_eq_false hge; omega
   have hord : ordL l n = u := by
    rw [hg, hle, show n + 1 - n = 0 + 1 by omega, grd]
    have hsp := findIdx_spec (p := fun i => ahU l u i == 0) (n := n)
    have hps : pickN l n u = (List.range n).findIdx fun i => ahU l u i == 0 := rfl
    rw [← hps] at hsp
    rcases hsp with ⟨_, h⟩ | ⟨h1, h2, _⟩
    ·rw [if_neg (by omega)]
    ·have := (hu.snoc h1 (by simpa using h2)).len
     simp at this; omega
   refine ret_rule (vs := [.slice B u.length bc, .int .i64 0]) r14 rfl rfl fun W2 hW2 => hR _ _ ⟨.inr ⟨by rw [hord]; omega, B, bc, by rw [hord]; rfl, ?_⟩, (ov.heap hW2).fresh'⟩
   rw [hord]
   exact (ov.heap hW2).owns (i := 1) rfl
end Go.Proofs.Ytbkpiljencaoeaa
