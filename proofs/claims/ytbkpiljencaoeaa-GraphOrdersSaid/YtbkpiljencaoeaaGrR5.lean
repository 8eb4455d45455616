/- The document's graphs (5): a cycle. -/
import Derived.Test.YtbkpiljencaoeaaGrR4
import Derived.Test.YtbkpiljencaoeaaGrPlain
import Derived.Test.YtbkpiljencaoeaaGrCode
set_option linter.unusedSimpArgs false
set_option linter.unusedVariables false
set_option linter.unnecessarySimpa false
namespace Go.Proofs.Ytbkpiljencaoeaa
open Go Go.Sx Go.Gr
set_option maxRecDepth 100000
theorem behindC {C : Cx} {E : Env} {d : Option Nat} {args : List Operand} {ls : List XS} {k : List KI} {F : List (Nat × SV)} (A : Option Addr) (c n : Nat) (l : List Ed) (hP : C.P = Try.prog) (hA : RowE E A (cellsD l)) (hok : okG n l)
  (hargs : denL [] (evL F args) = some [.int .i64 n, .slice A l.length c])
  (next : ∀ W B gs, RowE ⟨W, W.heap.size, [], E.nt, E.marks⟩ B (tabV gs n n) → (∀ a, a < n → RowE ⟨W, W.heap.size, [], E.nt, E.marks⟩ (some ⟨gs a, 0, none⟩) (rwV n (wsN l n a))) → Over E ⟨W, W.heap.size, [], E.nt, E.marks⟩ → G C ⟨W, W.heap.size, [], E.nt, E.marks⟩ (.ops ls :: k) { F := putF F d (.val (.slice B n n)), H := [] }) :
  G C E (.ops ({ dst := d, guard := none, i := .call 16 args } :: ls) :: k) { F := F, H := [] } := by
 refine call_base hargs (R := fun W v w' => ∃ B gs, v = .slice B n n ∧ TabAt w' B gs (wsN l n) n n ∧ Fresh W w') (fun W hW => ?_) (fun _ _ _ ⟨_, _, _, _, h⟩ => h) fun W v W' hW ⟨B, gs, hv, hT, _⟩ ov => ?_
 ·rw [hP]
  refine (behind16 A c n l W (hA.at hW) hok).mono ?_
  rintro v w' ⟨g, gs, hv, hh⟩
  exact ⟨_, gs, hv, HeapOk.tab (b := []) hh, hh.fresh'⟩
 ·obtain ⟨h1, h2⟩ := tabE hT E.nt E.marks
  exact ⟨.val (.slice B n n), by rw [hv]; rfl, next W' B gs h1 h2 ov⟩
theorem cycle15 (A : Option Addr) (c n : Nat) (l : List Ed) (w : World) (hA : RowAt w A (cellsD l)) (hok : okG n l) :
  CallsV Try.prog 15 [.int .i64 n, .slice A l.length c] w fun v w' => World.ownsB w' w.heap.size 3 1 v (cycL l n).length (isV (cycL l n)) ∧ Fresh w w' := by
 refine calls_go (keep := K15) (nt := 121) (svs := [.val (.int .i64 n), .val (.slice A l.length c)]) Try.func15 x15 n15 (by simp) (by simp [IsL, Is]) fun R hR => ?_
 have hn5 : n ≤ 500 := by have := hok.2.1; omega
 (refine Y_go 600 ?_; dsimp only [X15, numF, Nat.reduceAdd, zq9r, zq9q, Y_k, zq4u, zq8p, zq6u, YK, zq8t, zq9i, normF, zq6n, Nat.reduceBEq, zq6l, zq6k, zq6m, zq86, zq87, zq9y, t15n34, T15n34, zq8o, zq9j])
 refine behindC A c n l rfl (hA.toE (st := []) (by simp) 121 []) hok rfl fun W1 S hs hS hrowS ov1 => ?_
 dsimp only [zq8t]
 (refine Y_go 600 ?_; dsimp only [Y_k, zq4u, zq8o, zq6n, Nat.reduceBEq, zq6k, YK, zq8t, zq9i, normF, zq6l, zq6m, zq86, zq87, zq9y, t15n33, T15n33, zq9r, zq9q, zq9j])
 refine rightC A c n l rfl ((hA.toE (st := []) (by simp) 121 []).over ov1) hok rfl rfl (by (simp only [setn, List.nil_append, List.cons_append, leF, leH_nil, leH_cons, leF_nil, lk, scp, scpL, scpO, resF, resH, resO, resV, resVL, nth, Nat.reduceBEq, Nat.reduceLT, decide_true, decide_false, List.length, List.length_cons, List.length_nil, Nat.reduceAdd, Bool.and_self, Bool.and_true, and_true, true_and, numF] <;> try simp)) fun W T gs hT hrow ov2 => ?_
 have ov := ov1.trans ov2
 replace hS := hS.over ov2
 replace hrowS := fun a ha => (hrowS a ha).over ov2
 dsimp only [zq8t]
 (refine Y_go 600 ?_; dsimp only [Y_k, zq4u, zq8o, zq6n, Nat.reduceBEq, zq6k, YK, zq8t, zq9i, normF, zq6l, zq6m, zq86, zq87, zq9y, t15n32, T15n32, zq9r, zq9q, zq8p, zq6q, t15n31, T15n31, zq4w, zq04, zq92, zq9b, zq0e, zq9t, zq9v])
 have sT : 0 < n → T.isSome = true := fun h => hT.isSome (j := 0) (by rw [tabV_len]; exact h)
 have tt : ∀ a, a < n → CellAt ⟨W, W.heap.size, [], 121, []⟩ T (((a : Nat) : Int).toNat * 1) (.slice (some ⟨gs a, 0, none⟩) n n) := fun a ha => by
  rw [Int.toNat_natCast, Nat.mul_one]; exact hT.cell (tabV_get ha)
 have tr : ∀ a k, a < n → k < n → CellAt ⟨W, W.heap.size, [], 121, []⟩ (some ⟨gs a, 0, none⟩) (((k : Nat) : Int).toNat * 1) (.bool (rgB l a k)) := fun a k ha hk => by
  rw [Int.toNat_natCast, Nat.mul_one]; exact (hrow a ha).cell (rwV_get _ hk)
 have sS : 0 < n → S.isSome = true := fun h => hS.isSome (j := 0) (by rw [tabV_len]; exact h)
 have ss : ∀ a, a < n → CellAt ⟨W, W.heap.size, [], 121, []⟩ S (((a : Nat) : Int).toNat * 1) (.slice (some ⟨hs a, 0, none⟩) n n) := fun a ha => by
  rw [Int.toNat_natCast, Nat.mul_one]; exact hS.cell (tabV_get ha)
 have sr : ∀ a k, a < n → k < n → CellAt ⟨W, W.heap.size, [], 121, []⟩ (some ⟨hs a, 0, none⟩) (((k : Nat) : Int).toNat * 1) (.bool (wsN l n a k)) := fun a k ha hk => by
  rw [Int.toNat_natCast, Nat.mul_one]; exact (hrowS a ha).cell (rwV_get _ hk)
 clear hT hrow hS hrowS
 have hsub : ArOk .sub .i64 (n : Int) 1 ((n : Int) - 1) := ArOk.toSub rfl (by omega) (by omega)
 refine ⟨_, hsub, ?_⟩
 refine loop_go (α := Nat) (fun i0 => i0 ≤ n) (fun _ => ⟨W, W.heap.size, [], 121, []⟩)
  (fun i0 => { F := [(0, .val (.int .i64 n)), (5, .val (.slice S n n)), (6, .val (.slice T n n)), (7, .val (.int .i64 (lstF (fun i => wsN l n i i) n (n - i0)))), (8, .val (.int .i64 ((i0 : Int) - 1)))], H := [] }) (fun i0 => i0) (fun _ => rfl) ?start ?round
 case start =>
  intro a W rep
  refine ⟨n, Nat.le_refl _, ?_⟩
  simp only [Nat.sub_self, lstF]
  exact rep.le (by (simp only [setn, List.nil_append, List.cons_append, leF, leH_nil, leH_cons, leF_nil, lk, scp, scpL, scpO, resF, resH, resO, resV, resVL, nth, Nat.reduceBEq, Nat.reduceLT, decide_true, decide_false, List.length, List.length_cons, List.length_nil, Nat.reduceAdd, Bool.and_self, Bool.and_true, and_true, true_and, numF] <;> try simp)) (by (simp only [setn, List.nil_append, List.cons_append, leF, leH_nil, leH_cons, leF_nil, lk, scp, scpL, scpO, resF, resH, resO, resV, resVL, nth, Nat.reduceBEq, Nat.reduceLT, decide_true, decide_false, List.length, List.length_cons, List.length_nil, Nat.reduceAdd, Bool.and_self, Bool.and_true, and_true, true_and, numF] <;> try simp))
 case round =>
  rintro i0 hi0 I again
  by_cases h0 : i0 = 0
  ·subst h0
   simp only [Nat.sub_zero]
   rw [lstF_all]
   have hps : selfB l n = (List.range n).findIdx fun i => wsN l n i i := rfl
   rw [← hps]
   have hsp := findIdx_spec (p := fun i => wsN l n i i) (n := n)
   rw [← hps] at hsp
   have hcy : cycL l n = if selfB l n = n then [] else rotL (walkB l n (n + 1) [] (selfB l n)) := cycB_eq hok
   generalize selfB l n = p at hsp hcy ⊢
   by_cases hp : p < n
   ·rw [if_pos hp]
    rw [if_neg (by omega)] at hcy
    (refine Y_go 600 ?_; dsimp only [zq9y, t15n3, T15n3, zq9r, zq9q, Y_k, zq4u, zq8o, zq6n, Nat.reduceBEq, zq6l, zq6k, YK, zq8t, zq50, zq8p, zq6q, zq04, zq92, zq9b, zq0i, zq9h, zq9i, normF, zq6m, zq86, zq87, zq9s, zq6h, zq8x, YC, zq9p, t15n2, T15n2, zq9t, zq58, zq06, zq0w, zq5c, zq1p, zq1g, List.nil_append, zq1b, zq18, zq1d, zq89, t15n0, T15n0, zqa1, t15n1, T15n1, zq4w, zq0e, zqa2, zq8a, zq9u, popTo, zq6i, YP, t15n30, T15n30, zq9e, t15n4, T15n4, zq6u, zq9x, t15n29, T15n29, zq67, zq4t, List.length_nil, zq8f, t15n28, T15n28, t15n27, T15n27, zq9v])
    refine ⟨fun h => absurd (of_decide_eq_true h) (by omega), fun _ => ⟨fun h => absurd (of_decide_eq_true h) (by omega), fun _ => ⟨⟨by omega, by omega, by omega, by omega⟩, fun g => ?_⟩⟩⟩
    rw [Int.toNat_natCast, cV_zero]
    have hbp : Bh l p p := by
     rcases hsp with ⟨_, h⟩ | ⟨_, h2, _⟩
     ·omega
     ·rw [← wsN_bh hok] at h2; exact (bhB_iff l p p).1 h2
    rw [← walkB_eq hok] at hcy
    refine loop_go (α := List Int × Nat × Option Addr × Nat) (fun q => q.1.Nodup ∧ (∀ x ∈ q.1, 0 ≤ x ∧ x < n) ∧ q.2.1 < n ∧ Bh l q.2.1 q.2.1 ∧ cycL l n = rotL (walkC l (n + 1 - q.1.length) q.1 q.2.1)) (fun _ => ⟨W, W.heap.size, [], 121, []⟩)
     (fun q => { F := [(0, .val (.int .i64 n)), (5, .val (.slice S n n)), (6, .val (.slice T n n)), (7, .val (.int .i64 q.2.1)), (9, .own 0 0), (10, .own 1 0)], H := [.own 3 0 1 (some ⟨g, 0, none⟩) n n (cV n (plW q.1)), .own 3 0 1 q.2.2.1 q.1.length q.2.2.2 (isV q.1)] }) (fun q => n - q.1.length) (fun _ => rfl) ?start2 ?round2
    case start2 =>
     intro a W2 rep
     refine ⟨([], p, none, 0), ⟨by simp, by simp, hp, hbp, hcy⟩, ?_⟩
     have e0 : cV n (plW []) = cV n fun _ => 0 := cV_congr fun j _ => by unfold plW; rw [if_neg (by simp)]
     simp only [e0]
     exact (rep.adopt 10 3 1 rfl).le (by (simp only [setn, List.nil_append, List.cons_append, leF, leH_nil, leH_cons, leF_nil, lk, scp, scpL, scpO, resF, resH, resO, resV, resVL, nth, Nat.reduceBEq, Nat.reduceLT, decide_true, decide_false, List.length, List.length_cons, List.length_nil, Nat.reduceAdd, Bool.and_self, Bool.and_true, and_true, true_and, numF] <;> try simp)) (by (simp only [setn, List.nil_append, List.cons_append, leF, leH_nil, leH_cons, leF_nil, lk, scp, scpL, scpO, resF, resH, resO, resV, resVL, nth, Nat.reduceBEq, Nat.reduceLT, decide_true, decide_false, List.length, List.length_cons, List.length_nil, Nat.reduceAdd, Bool.and_self, Bool.and_true, and_true, true_and, numF] <;> try simp); rfl)
    case round2 =>
     rintro ⟨u, k, B, bc⟩ ⟨hnd, hin, hkn, hbk, hw⟩ I2 again2
     simp only at hnd hin hkn hbk hw ⊢
     have hul := nodup_le n u hnd hin
     have hpk : (cV n (plW u))[(k : Int).toNat * 1]? = some (.int .i64 (plW u k)) := by rw [Int.toNat_natCast, Nat.mul_one]; exact cV_get _ hkn
     obtain ⟨f, hf⟩ : ∃ f, n + 1 - u.length = f + 1 := ⟨n - u.length, by omega⟩
     rw [hf, walkC] at hw
     (refine Y_go 600 ?_; dsimp only [zq9y, t15n13, T15n13, zq9r, zq9q, Y_k, zq4u, zq8o, zq6n, Nat.reduceBEq, zq6l, zq6k, YK, zq8t, zq58, zq06, zq0y, nth, zq09, zq08, zq0v, zq5c, zq1q, zq1n, zq1c, List.nil_append, zq1b, zq18, zq50, zq8p, zq6q, zq04, zq92, zq9b, zq0i, zq9c, zq9i, normF, zq6m, zq86, zq87, zq8f, zq9s, zq6h, zq8x, YC, zq9p, t15n12, T15n12, zq9t, zq5h, List.map, repL, List.cons_append, zq23, Nat.reduceMul, zq7u, zq73, zq0a, dropL, takeL, zq20, splice, setn, zq24, zq26, List.length_cons, List.length_nil, Nat.reduceAdd, zq5l, zq2w, zq2s, zq2r, zq2n, zq2j, zq2k, zq8l, zq8m, zq8k, denL, den, zq2l, zq2h, zq89, t15n11, T15n11, zq55, zq0t, zq0q, zq5d, zq1y, zq1w, zq1v, zq8s, t15n10, T15n10, t15n9, T15n9, zq4w, zq0e, zq9v, zq9u, popTo, zq6i, YP, t15n26, T15n26, zq5o, zq3b, zq38, zq3i, zq3c, zq98, zq8a, t15n25, T15n25, t15n24, T15n24])
     refine ⟨⟨by omega, by omega⟩, _, hpk, fun hz => ?_, fun hz => ?_⟩
     ·have hku : (k : Int) ∉ u := by
       intro h
       have hz : plW u k = 0 := by simpa using hz
       unfold plW at hz; rw [if_pos h] at hz; omega
      rw [if_neg hku] at hw
      refine fun g1 => ⟨⟨by simp only [maxLen]; omega, by omega⟩, fun B2 bc2 => ⟨⟨by omega, by omega⟩, by rw [cV_len, Int.toNat_natCast]; omega, _, hsub, ?_⟩⟩
      rw [Int.toNat_natCast, Nat.mul_one, cV_set _ _ hkn]
      have e1 : (cV n fun j => if j = k then ((u.length + 1 : Nat) : Int) else plW u j) = cV n (plW (u ++ [(k : Int)])) := cV_congr fun j _ => (plW_snoc hku j).symm
      rw [e1]
      have e2 : isV (u ++ [(k : Int)]) = isV u ++ [.int .i64 k] := by simp [isV]
      have hnd2 : (u ++ [(k : Int)]).Nodup := by
       rw [List.nodup_append]
       refine ⟨hnd, by simp, fun a ha b hb => ?_⟩
       simp only [List.mem_singleton] at hb
       subst hb
       exact fun e => hku (e ▸ ha)
      have hin2 : ∀ x ∈ u ++ [(k : Int)], 0 ≤ x ∧ x < n := fun x hx => by
       rcases List.mem_append.1 hx with h | h
       ·exact hin x h
       ·simp only [List.mem_singleton] at h; subst h; omega
      have hul2 := nodup_le n _ hnd2 hin2
      rw [List.length_append, List.length_singleton] at hul2
      refine loop_go (α := Nat) (fun i0 => i0 ≤ n) (fun _ => ⟨W, W.heap.size, [], 121, []⟩)
       (fun i0 => { F := [(0, .val (.int .i64 n)), (5, .val (.slice S n n)), (6, .val (.slice T n n)), (7, .val (.int .i64 k)), (9, .own 0 0), (10, .own 1 0), (11, .val (.int .i64 (lstF (fun i => rgB l k i && wsN l n i k) n (n - i0)))), (12, .val (.int .i64 ((i0 : Int) - 1)))], H := [.own 3 0 1 (some ⟨g, 0, none⟩) n n (cV n (plW (u ++ [(k : Int)]))), .own 3 0 1 B2 (u.length + 1) bc2 (isV (u ++ [(k : Int)]))] }) (fun i0 => i0) (fun _ => rfl) ?start3 ?round3
      case start3 =>
       intro a W2 rep
       refine ⟨n, Nat.le_refl _, ?_⟩
       simp only [Nat.sub_self, lstF, e2]
       exact rep.res.le (by (simp only [setn, List.nil_append, List.cons_append, leF, leH_nil, leH_cons, leF_nil, lk, scp, scpL, scpO, resF, resH, resO, resV, resVL, nth, Nat.reduceBEq, Nat.reduceLT, decide_true, decide_false, List.length, List.length_cons, List.length_nil, Nat.reduceAdd, Bool.and_self, Bool.and_true, and_true, true_and, numF] <;> try simp)) (by (simp only [setn, List.nil_append, List.cons_append, leF, leH_nil, leH_cons, leF_nil, lk, scp, scpL, scpO, resF, resH, resO, resV, resVL, nth, Nat.reduceBEq, Nat.reduceLT, decide_true, decide_false, List.length, List.length_cons, List.length_nil, Nat.reduceAdd, Bool.and_self, Bool.and_true, and_true, true_and, numF] <;> try simp))
      case round3 =>
       rintro i0 hi0 I3 again3
       by_cases h0 : i0 = 0
       ·subst h0
        simp only [Nat.sub_zero]
        rw [next_spec hok hbk]
        (refine Y_go 600 ?_; dsimp only [zq9y, t15n8, T15n8, zq9r, zq9q, Y_k, zq4u, zq8o, zq6n, Nat.reduceBEq, zq6l, zq6k, YK, zq8t, zq50, zq8p, zq6q, zq04, zq92, zq9b, zq0i, zq9h, zq9i, normF, zq6m, zq86, zq87, zq8f, zq9s, zq6h, zq8x, YC, zq9p, t15n7, T15n7, zq9t, zq58, zq06, zq0w, zq5c, zq1p, zq1g, List.nil_append, zq1b, zq18, zq1d, Y_gk, zq6d, YR, zq69, zq4v, zq6p, zq0b, zq89, t15n5, T15n5, zqa1, t15n6, T15n6, zq4w, zq0e, zqa2, zq8a, YS, zq6b, zq0c, zq6g, zq9u, popTo, zq6i, YP])
        obtain ⟨_, h6, h7, _⟩ := stepC_spec hok hbk
        refine ⟨fun h => absurd (of_decide_eq_true h) (by omega), fun _ => lend_rule fun a W2 rep => again2 (u ++ [(k : Int)], stepC l k, B2, bc2) ⟨hnd2, hin2, h7, h6, ?_⟩ (by simp only [List.length_append, List.length_singleton]; omega) a W2 ?_⟩
        ·rw [hw, List.length_append, List.length_singleton, show n + 1 - (u.length + 1) = f by omega]
        ·simp only [List.length_append, List.length_singleton]
         exact rep.le (by (simp only [setn, List.nil_append, List.cons_append, leF, leH_nil, leH_cons, leF_nil, lk, scp, scpL, scpO, resF, resH, resO, resV, resVL, nth, Nat.reduceBEq, Nat.reduceLT, decide_true, decide_false, List.length, List.length_cons, List.length_nil, Nat.reduceAdd, Bool.and_self, Bool.and_true, and_true, true_and, numF] <;> try simp)) (by (simp only [setn, List.nil_append, List.cons_append, leF, leH_nil, leH_cons, leF_nil, lk, scp, scpL, scpO, resF, resH, resO, resV, resVL, nth, Nat.reduceBEq, Nat.reduceLT, decide_true, decide_false, List.length, List.length_cons, List.length_nil, Nat.reduceAdd, Bool.and_self, Bool.and_true, and_true, true_and, numF] <;> try simp))
       ·obtain ⟨i, rfl⟩ : ∃ i, i0 = i + 1 := ⟨i0 - 1, by omega⟩
        rw [show ((i + 1 : Nat) : Int) - 1 = (i : Int) by omega]
        have hi : i < n := by omega
        have si : ArOk .sub .i64 (i : Int) 1 ((i : Int) - 1) := ArOk.toSub rfl (by omega) (by omega)
        have hls : lstF (fun i => rgB l k i && wsN l n i k) n (n - i) = if rgB l k i && wsN l n i k then (i : Int) else lstF (fun i => rgB l k i && wsN l n i k) n (n - (i + 1)) := by
         rw [show n - i = (n - (i + 1)) + 1 by omega, lstF, show n - 1 - (n - (i + 1)) = i by omega]
        (refine Y_go 600 ?_; dsimp only [zq9y, t15n8, T15n8, zq9r, zq9q, Y_k, zq4u, zq8o, zq6n, Nat.reduceBEq, zq6l, zq6k, YK, zq8t, zq50, zq8p, zq6q, zq04, zq92, zq9b, zq0i, zq9h, zq9i, normF, zq6m, zq86, zq87, zq8f, zq9s, zq6h, zq8x, YC, zq9p, t15n7, T15n7, zq9t, zq58, zq06, zq0w, zq5c, zq1p, zq1g, List.nil_append, zq1b, zq18, zq1d, Y_gk, zq6d, YR, zq69, zq4v, zq6p, zq0b, zq89, t15n5, T15n5, zqa1, t15n6, T15n6, zq4w, zq0e, zqa2, zq8a, YS, zq6b, zq0c, zq6g, zq9u, popTo, zq6i, YP])
        refine ⟨fun _ => ⟨⟨by omega, by omega, sT (by omega)⟩, _, _, _, tt k hkn, ⟨by omega, by omega, rfl⟩, _, tr k i hkn hi, fun hb => ⟨⟨by omega, by omega, sS (by omega)⟩, _, _, _, ss i hi, ⟨by omega, by omega, rfl⟩, _, sr i k hi hkn, fun hb2 => ⟨_, si, lend_rule fun a W2 rep => again3 i (by omega) (by omega) a W2 ?_⟩, fun hb2 => ⟨_, si, lend_rule fun a W2 rep => again3 i (by omega) (by omega) a W2 ?_⟩⟩, fun hb => ⟨_, si, lend_rule fun a W2 rep => again3 i (by omega) (by omega) a W2 ?_⟩⟩, fun h => absurd (of_decide_eq_false h) (by omega)⟩
        ·rw [hls, hb, hb2, Bool.and_self, if_pos rfl]
         exact rep.le (by (simp only [setn, List.nil_append, List.cons_append, leF, leH_nil, leH_cons, leF_nil, lk, scp, scpL, scpO, resF, resH, resO, resV, resVL, nth, Nat.reduceBEq, Nat.reduceLT, decide_true, decide_false, List.length, List.length_cons, List.length_nil, Nat.reduceAdd, Bool.and_self, Bool.and_true, and_true, true_and, numF] <;> try simp)) (by (simp only [setn, List.nil_append, List.cons_append, leF, leH_nil, leH_cons, leF_nil, lk, scp, scpL, scpO, resF, resH, resO, resV, resVL, nth, Nat.reduceBEq, Nat.reduceLT, decide_true, decide_false, List.length, List.length_cons, List.length_nil, Nat.reduceAdd, Bool.and_self, Bool.and_true, and_true, true_and, numF] <;> try simp))
        ·rw [hls, hb, hb2, Bool.and_false, if_neg (by decide)]
         exact rep.le (by (simp only [setn, List.nil_append, List.cons_append, leF, leH_nil, leH_cons, leF_nil, lk, scp, scpL, scpO, resF, resH, resO, resV, resVL, nth, Nat.reduceBEq, Nat.reduceLT, decide_true, decide_false, List.length, List.length_cons, List.length_nil, Nat.reduceAdd, Bool.and_self, Bool.and_true, and_true, true_and, numF] <;> try simp)) (by (simp only [setn, List.nil_append, List.cons_append, leF, leH_nil, leH_cons, leF_nil, lk, scp, scpL, scpO, resF, resH, resO, resV, resVL, nth, Nat.reduceBEq, Nat.reduceLT, decide_true, decide_false, List.length, List.length_cons, List.length_nil, Nat.reduceAdd, Bool.and_self, Bool.and_true, and_true, true_and, numF] <;> try simp))
        ·rw [hls, hb, Bool.false_and, if_neg (by decide)]
         exact rep.le (by (simp only [setn, List.nil_append, List.cons_append, leF, leH_nil, leH_cons, leF_nil, lk, scp, scpL, scpO, resF, resH, resO, resV, resVL, nth, Nat.reduceBEq, Nat.reduceLT, decide_true, decide_false, List.length, List.length_cons, List.length_nil, Nat.reduceAdd, Bool.and_self, Bool.and_true, and_true, true_and, numF] <;> try simp)) (by (simp only [setn, List.nil_append, List.cons_append, leF, leH_nil, leH_cons, leF_nil, lk, scp, scpL, scpO, resF, resH, resO, resV, resVL, nth, Nat.reduceBEq, Nat.reduceLT, decide_true, decide_false, List.length, List.length_cons, List.length_nil, Nat.reduceAdd, Bool.and_self, Bool.and_true, and_true, true_and, numF] <;> try simp))
     ·have hku : (k : Int) ∈ u := by
       refine Classical.byContradiction fun h => ?_
       have : plW u k = 0 := by unfold plW; rw [if_neg h]
       rw [this] at hz; exact absurd hz (by decide)
      rw [if_pos hku] at hw
      have hplk : plW u k = ((u.idxOf (k : Int) : Nat) : Int) + 1 := by unfold plW; rw [if_pos hku]
      have hxl := List.idxOf_lt_length_of_mem hku
      rw [hplk] at hpk
      have hdrop : (isV u).drop (u.idxOf (k : Int)) = isV (u.drop (u.idxOf (k : Int))) := by unfold isV; rw [List.map_drop]
      generalize u.idxOf (k : Int) = p at hxl hpk hw hdrop
      refine ⟨⟨by omega, by omega⟩, _, hpk, (p : Int), ArOk.toSub (by omega) (by omega) (by omega), ⟨by omega, by omega⟩, ?_⟩
      rw [Int.toNat_natCast]
      obtain ⟨x, r, hxr⟩ : ∃ x r, u.drop p = x :: r := by
       cases h : u.drop p with
       | nil => have := congrArg List.length h; rw [List.length_drop] at this; simp at this; omega
       | cons x r => exact ⟨x, r, rfl⟩
      have hxl : u.length - p = (x :: r).length := by rw [← hxr, List.length_drop]
      have hrl : r.length ≤ 500 := by have : (x :: r).length = r.length + 1 := rfl; omega
      rw [hxr] at hw hdrop
      refine G.le (E' := ⟨W, W.heap.size, [], 121, []⟩) rfl (s' := { F := [(10, .own 1 0), (13, .val (.int .i64 0)), (14, .val (.int .i64 0))], H := [.own 3 0 1 (some ⟨g, 0, none⟩) n n (cV n (plW u)), .own 3 0 1 (subA B bc p 1) (x :: r).length (bc - p) (isV (x :: r))] }) (fun a W2 rep => ?_) ?_
      ·have r1 := rep.window 10 (i := 1) (l := p) (u.length - p) rfl rfl (by omega)
       have e1 : ((isV u).drop (p * 1)).take ((u.length - p) * 1) = isV (x :: r) := by
        rw [Nat.mul_one, Nat.mul_one, hdrop, List.take_of_length_le (by rw [isV_len, hxl]; exact Nat.le_refl _)]
       rw [e1, hxl] at r1
       exact r1.res.le (by (simp only [setn, List.nil_append, List.cons_append, leF, leH_nil, leH_cons, leF_nil, lk, scp, scpL, scpO, resF, resH, resO, resV, resVL, nth, Nat.reduceBEq, Nat.reduceLT, decide_true, decide_false, List.length, List.length_cons, List.length_nil, Nat.reduceAdd, Bool.and_self, Bool.and_true, and_true, true_and, numF] <;> try simp)) (by (simp only [setn, List.nil_append, List.cons_append, leF, leH_nil, leH_cons, leF_nil, lk, scp, scpL, scpO, resF, resH, resO, resV, resVL, nth, Nat.reduceBEq, Nat.reduceLT, decide_true, decide_false, List.length, List.length_cons, List.length_nil, Nat.reduceAdd, Bool.and_self, Bool.and_true, and_true, true_and, numF] <;> try simp))
      generalize subA B bc p 1 = C
      generalize bc - p = cc
      have hcyc : cycL l n = (x :: r).drop ((x :: r).idxOf (minI x r)) ++ (x :: r).take ((x :: r).idxOf (minI x r)) := hw
      have hlm := List.idxOf_lt_length_of_mem (minI_mem r x)
      have hlse := lsF_end x r
      have hls0 := lsF_spec (x :: r)
      generalize hL : x :: r = L at *
      have hLl : L.length = r.length + 1 := by rw [← hL]; rfl
      refine loop_go (α := Nat) (fun i => i ≤ L.length) (fun _ => ⟨W, W.heap.size, [], 121, []⟩)
       (fun i => { F := [(10, .own 1 0), (13, .val (.int .i64 (lsF L i))), (14, .val (.int .i64 i))], H := [.own 3 0 1 (some ⟨g, 0, none⟩) n n (cV n (plW u)), .own 3 0 1 C L.length cc (isV L)] }) (fun i => L.length - i) (fun _ => rfl) ?start4 ?round4
      case start4 =>
       intro a W2 rep
       exact ⟨0, Nat.zero_le _, rep.le (by (simp only [setn, List.nil_append, List.cons_append, leF, leH_nil, leH_cons, leF_nil, lk, scp, scpL, scpO, resF, resH, resO, resV, resVL, nth, Nat.reduceBEq, Nat.reduceLT, decide_true, decide_false, List.length, List.length_cons, List.length_nil, Nat.reduceAdd, Bool.and_self, Bool.and_true, and_true, true_and, numF] <;> try simp); rfl) (by (simp only [setn, List.nil_append, List.cons_append, leF, leH_nil, leH_cons, leF_nil, lk, scp, scpL, scpO, resF, resH, resO, resV, resVL, nth, Nat.reduceBEq, Nat.reduceLT, decide_true, decide_false, List.length, List.length_cons, List.length_nil, Nat.reduceAdd, Bool.and_self, Bool.and_true, and_true, true_and, numF] <;> try simp))⟩
      case round4 =>
       rintro i hi I4 again4
       (refine Y_go 600 ?_; dsimp only [zq9y, t15n17, T15n17, zq9r, zq9q, Y_k, zq4u, zq8o, zq6n, Nat.reduceBEq, zq6l, zq6k, YK, zq8t, zq55, zq0t, nth, zq09, zq08, zq0q, zq50, zq04, zq92, zq9b, zq0i, zq9e, zq9i, normF, zq6m, zq86, zq87, zq8f, zq9s, zq6h, zq8x, YC, zq9p, t15n16, T15n16, zq9t, zq58, zq06, zq0y, zq0v, zq5c, zq1q, zq1n, zq1c, List.nil_append, zq1b, zq18, zq89, t15n14, T15n14, zqa1, t15n15, T15n15, zq4w, zq8p, zq6q, zq0e, zqa2, zq8a, zq9u, popTo, zq6i, YP, t15n23, T15n23, zq6u, t15n22, T15n22, zq9v])
       refine ⟨fun hlt => ?_, fun hge => ?_⟩
       ·have hil : i < L.length := by have := of_decide_eq_true hlt; omega
        have hq : lsF L i < L.length := by
         rcases Nat.eq_zero_or_pos i with h | h
         ·subst h; exact (by omega : (0 : Nat) < L.length)
         ·have := (hls0 i h).1; omega
        have ai : ArOk .add .i64 (i : Int) 1 ((i + 1 : Nat) : Int) := ArOk.to (by omega) (by omega) (by omega)
        have hs : lsF L (i + 1) = if L.getD i 0 < L.getD (lsF L i) 0 then i else lsF L i := rfl
        have gi : (isV L)[(i : Int).toNat * 1]? = some (.int .i64 (L.getD i 0)) := by rw [Int.toNat_natCast, Nat.mul_one]; exact isV_get _ _ _ (getD_get L hil)
        have gq : (isV L)[((lsF L i : Nat) : Int).toNat * 1]? = some (.int .i64 (L.getD (lsF L i) 0)) := by rw [Int.toNat_natCast, Nat.mul_one]; exact isV_get _ _ _ (getD_get L hq)
        refine ⟨⟨by omega, by omega⟩, _, gi, ⟨by omega, by omega⟩, _, gq, fun h => ⟨_, ai, lend_rule fun a W2 rep => again4 (i + 1) hil (by omega) a W2 ?_⟩, fun h => ⟨_, ai, lend_rule fun a W2 rep => again4 (i + 1) hil (by omega) a W2 ?_⟩⟩
        ·rw [hs, if_pos (of_decide_eq_true h)]
         exact rep.le (by (simp only [setn, List.nil_append, List.cons_append, leF, leH_nil, leH_cons, leF_nil, lk, scp, scpL, scpO, resF, resH, resO, resV, resVL, nth, Nat.reduceBEq, Nat.reduceLT, decide_true, decide_false, List.length, List.length_cons, List.length_nil, Nat.reduceAdd, Bool.and_self, Bool.and_true, and_true, true_and, numF] <;> try simp)) (by (simp only [setn, List.nil_append, List.cons_append, leF, leH_nil, leH_cons, leF_nil, lk, scp, scpL, scpO, resF, resH, resO, resV, resVL, nth, Nat.reduceBEq, Nat.reduceLT, decide_true, decide_false, List.length, List.length_cons, List.length_nil, Nat.reduceAdd, Bool.and_self, Bool.and_true, and_true, true_and, numF] <;> try simp))
        ·rw [hs, if_neg (of_decide_eq_false h)]
         exact rep.le (by (simp only [setn, List.nil_append, List.cons_append, leF, leH_nil, leH_cons, leF_nil, lk, scp, scpL, scpO, resF, resH, resO, resV, resVL, nth, Nat.reduceBEq, Nat.reduceLT, decide_true, decide_false, List.length, List.length_cons, List.length_nil, Nat.reduceAdd, Bool.and_self, Bool.and_true, and_true, true_and, numF] <;> try simp)) (by (simp only [setn, List.nil_append, List.cons_append, leF, leH_nil, leH_cons, leF_nil, lk, scp, scpL, scpO, resF, resH, resO, resV, resVL, nth, Nat.reduceBEq, Nat.reduceLT, decide_true, decide_false, List.length, List.length_cons, List.length_nil, Nat.reduceAdd, Bool.and_self, Bool.and_true, and_true, true_and, numF] <;> try simp))
       ·have hie : i = L.length := by have := of_decide_eq_false hge; omega
        subst hie
        rw [hlse]
        generalize L.idxOf (minI x r) = e at *
        have hget : ∀ j, j < L.length → (cycL l n)[j]? = L[(j + e) % L.length]? := fun j hj => by rw [hcyc]; exact rot_get hlm hj
        have hcl : (cycL l n).length = L.length := by rw [hcyc, List.length_append, List.length_drop, List.length_take]; omega
        generalize cycL l n = cy at *
        refine loop_go (α := Nat × Option Addr × Nat) (fun q => q.1 ≤ L.length) (fun _ => ⟨W, W.heap.size, [], 121, []⟩)
         (fun q => { F := [(10, .own 1 0), (13, .val (.int .i64 e)), (15, .own 2 0), (16, .val (.int .i64 q.1))], H := [.own 3 0 1 (some ⟨g, 0, none⟩) n n (cV n (plW u)), .own 3 0 1 C L.length cc (isV L), .own 3 0 1 q.2.1 q.1 q.2.2 (isV (cy.take q.1))] }) (fun q => L.length - q.1) (fun _ => rfl) ?start5 ?round5
        case start5 =>
         intro a W2 rep
         exact ⟨(0, none, 0), Nat.zero_le _, (rep.adopt 15 3 1 rfl).le (by (simp only [setn, List.nil_append, List.cons_append, leF, leH_nil, leH_cons, leF_nil, lk, scp, scpL, scpO, resF, resH, resO, resV, resVL, nth, Nat.reduceBEq, Nat.reduceLT, decide_true, decide_false, List.length, List.length_cons, List.length_nil, Nat.reduceAdd, Bool.and_self, Bool.and_true, and_true, true_and, numF] <;> try simp)) (by (simp only [setn, List.nil_append, List.cons_append, leF, leH_nil, leH_cons, leF_nil, lk, scp, scpL, scpO, resF, resH, resO, resV, resVL, nth, Nat.reduceBEq, Nat.reduceLT, decide_true, decide_false, List.length, List.length_cons, List.length_nil, Nat.reduceAdd, Bool.and_self, Bool.and_true, and_true, true_and, numF] <;> try simp); rfl)⟩
        case round5 =>
         rintro ⟨i, D, dc⟩ hi I5 again5
         simp only at hi ⊢
         (refine Y_go 600 ?_; dsimp only [zq9y, t15n20, T15n20, zq9r, zq9q, Y_k, zq4u, zq8o, zq6n, Nat.reduceBEq, zq6l, zq6k, YK, zq8t, zq55, zq0t, nth, zq09, zq08, zq0q, zq50, zq04, zq92, zq9b, zq0i, zq9e, zq9i, normF, zq6m, zq87, zq86, zq8f, zq9s, zq6h, zq8x, YC, zq9p, t15n19, T15n19, zq9t, zq4w, zq0e, zq4x, zq0f, zq58, zq06, zq0y, zq0v, zq5c, zq1q, zq1n, zq1c, List.nil_append, zq1b, zq18, zq5h, List.map, zq6q, repL, List.cons_append, zq23, Nat.reduceMul, zq7u, zq73, zq0a, dropL, takeL, zq20, splice, setn, zq24, zq26, List.length_cons, List.length_nil, Nat.reduceAdd, zq5l, zq2w, zq2s, zq2r, zq2n, zq2j, zq2k, zq8l, zq8m, zq8k, denL, den, zq2l, zq2h, zq89, zqa1, t15n18, T15n18, zq8p, zqa2, zq9u, popTo, zq6i, YP, t15n21, T15n21, zq8a, zq9x])
         refine ⟨fun hlt => ?_, fun hge => ?_⟩
         ·have hil : i < L.length := by have := of_decide_eq_true hlt; omega
          have hml : (i + e) % L.length < L.length := Nat.mod_lt _ (by omega)
          have hci := hget i hil
          rw [getD_get L hml] at hci
          have hrem : DivOk .rem .i64 ((e + i : Nat) : Int) (L.length : Int) (((i + e) % L.length : Nat) : Int) := by
           have := DivOk.rem_nn (k := .i64) (a := ((e + i : Nat) : Int)) (b := (L.length : Int)) (by omega) (by omega)
           rw [Nat.add_comm i e]
           exact this
          generalize (i + e) % L.length = q at *
          have gq : (isV L)[((q : Nat) : Int).toNat * 1]? = some (.int .i64 (L.getD q 0)) := by rw [Int.toNat_natCast, Nat.mul_one]; exact isV_get _ _ _ (getD_get L hml)
          refine ⟨((e + i : Nat) : Int), ArOk.to (by omega) (by omega) (by omega), _, hrem, ⟨by omega, by omega⟩, _, gq, fun g1 => ⟨⟨by simp only [maxLen]; omega, by omega⟩, fun D2 dc2 => ⟨((i + 1 : Nat) : Int), ArOk.to (by omega) (by omega) (by omega), lend_rule fun a W2 rep => again5 (i + 1, D2, dc2) hil (by simp only; omega) a W2 ?_⟩⟩⟩
          have e3 : isV (cy.take (i + 1)) = isV (cy.take i) ++ [.int .i64 (L.getD q 0)] := by rw [List.take_add_one, hci]; simp [isV]
          simp only [e3]
          exact rep.res.le (by (simp only [setn, List.nil_append, List.cons_append, leF, leH_nil, leH_cons, leF_nil, lk, scp, scpL, scpO, resF, resH, resO, resV, resVL, nth, Nat.reduceBEq, Nat.reduceLT, decide_true, decide_false, List.length, List.length_cons, List.length_nil, Nat.reduceAdd, Bool.and_self, Bool.and_true, and_true, true_and, numF] <;> try simp)) (by (simp only [setn, List.nil_append, List.cons_append, leF, leH_nil, leH_cons, leF_nil, lk, scp, scpL, scpO, resF, resH, resO, resV, resVL, nth, Nat.reduceBEq, Nat.reduceLT, decide_true, decide_false, List.length, List.length_cons, List.length_nil, Nat.reduceAdd, Bool.and_self, Bool.and_true, and_true, true_and, numF] <;> try simp))
         ·have hie : i = L.length := by have := of_decide_eq_false hge; omega
          subst hie
          rw [List.take_of_length_le (by omega)]
          refine ret_rule (vs := [.slice D L.length dc]) r15 rfl rfl fun W2 hW2 => hR _ _ ⟨?_, (ov.heap hW2).fresh'⟩
          rw [hcl]
          exact (ov.heap hW2).owns (i := 2) rfl
   ·rw [if_neg hp]
    rw [if_pos (by rcases hsp with ⟨_, h⟩ | ⟨h, _⟩ <;> omega)] at hcy
    (refine Y_go 600 ?_; dsimp only [zq9y, t15n3, T15n3, zq9r, zq9q, Y_k, zq4u, zq8o, zq6n, Nat.reduceBEq, zq6l, zq6k, YK, zq8t, zq50, zq8p, zq6q, zq04, zq92, zq9b, zq0i, zq9h, zq9i, normF, zq6m, zq86, zq87, zq9s, zq6h, zq8x, YC, zq9p, t15n2, T15n2, zq9t, zq58, zq06, zq0w, zq5c, zq1p, zq1g, List.nil_append, zq1b, zq18, zq1d, zq89, t15n0, T15n0, zqa1, t15n1, T15n1, zq4w, zq0e, zqa2, zq8a, zq9u, popTo, zq6i, YP, t15n30, T15n30, zq9e, t15n4, T15n4, zq6u, zq9x, t15n29, T15n29, zq67, zq4t, List.length_nil, zq8f, t15n28, T15n28, t15n27, T15n27, zq9v])
    refine ⟨fun h => absurd (of_decide_eq_true h) (by omega), fun _ => ⟨fun _ => ?_, fun h => absurd h (by decide)⟩⟩
    refine ret_rule (vs := [.slice none 0 0]) r15 rfl rfl fun W2 hW2 => hR _ _ ⟨?_, (ov.heap hW2).fresh'⟩
    rw [hcy]; exact ownsB_nil _ _ _ _
  ·obtain ⟨i, rfl⟩ : ∃ i, i0 = i + 1 := ⟨i0 - 1, by omega⟩
   rw [show ((i + 1 : Nat) : Int) - 1 = (i : Int) by omega]
   have hin : i < n := by omega
   have si : ArOk .sub .i64 (i : Int) 1 ((i : Int) - 1) := ArOk.toSub rfl (by omega) (by omega)
   have hls : lstF (fun i => wsN l n i i) n (n - i) = if wsN l n i i then (i : Int) else lstF (fun i => wsN l n i i) n (n - (i + 1)) := by
    rw [show n - i = (n - (i + 1)) + 1 by omega, lstF, show n - 1 - (n - (i + 1)) = i by omega]
   (refine Y_go 600 ?_; dsimp only [zq9y, t15n3, T15n3, zq9r, zq9q, Y_k, zq4u, zq8o, zq6n, Nat.reduceBEq, zq6l, zq6k, YK, zq8t, zq50, zq8p, zq6q, zq04, zq92, zq9b, zq0i, zq9h, zq9i, normF, zq6m, zq86, zq87, zq9s, zq6h, zq8x, YC, zq9p, t15n2, T15n2, zq9t, zq58, zq06, zq0w, zq5c, zq1p, zq1g, List.nil_append, zq1b, zq18, zq1d, zq89, t15n0, T15n0, zqa1, t15n1, T15n1, zq4w, zq0e, zqa2, zq8a, zq9u, popTo, zq6i, YP, t15n30, T15n30, zq9e, t15n4, T15n4, zq6u, zq9x, t15n29, T15n29, zq67, zq4t, List.length_nil, zq8f, t15n28, T15n28, t15n27, T15n27, zq9v])
   refine ⟨fun _ => ⟨⟨by omega, by omega, sS (by omega)⟩, _, _, _, ss i hin, ⟨by omega, by omega, rfl⟩, _, sr i i hin hin, fun hb => ⟨_, si, lend_rule fun a W2 rep => again i (by omega) (by omega) a W2 ?_⟩, fun hb => ⟨_, si, lend_rule fun a W2 rep => again i (by omega) (by omega) a W2 ?_⟩⟩, fun h => absurd (of_decide_eq_false h) (by omega)⟩
   ·rw [hls, hb, if_pos rfl]
    exact rep.le (by (simp only [setn, List.nil_append, List.cons_append, leF, leH_nil, leH_cons, leF_nil, lk, scp, scpL, scpO, resF, resH, resO, resV, resVL, nth, Nat.reduceBEq, Nat.reduceLT, decide_true, decide_false, List.length, List.length_cons, List.length_nil, Nat.reduceAdd, Bool.and_self, Bool.and_true, and_true, true_and, numF] <;> try simp)) (by (simp only [setn, List.nil_append, List.cons_append, leF, leH_nil, leH_cons, leF_nil, lk, scp, scpL, scpO, resF, resH, resO, resV, resVL, nth, Nat.reduceBEq, Nat.reduceLT, decide_true, decide_false, List.length, List.length_cons, List.length_nil, Nat.reduceAdd, Bool.and_self, Bool.and_true, and_true, true_and, numF] <;> try simp))
   ·rw [hls, hb, if_neg (by decide)]
    exact rep.le (by (simp only [setn, List.nil_append, List.cons_append, leF, leH_nil, leH_cons, leF_nil, lk, scp, scpL, scpO, resF, resH, resO, resV, resVL, nth, Nat.reduceBEq, Nat.reduceLT, decide_true, decide_false, List.length, List.length_cons, List.length_nil, Nat.reduceAdd, Bool.and_self, Bool.and_true, and_true, true_and, numF] <;> try simp)) (by (simp only [setn, List.nil_append, List.cons_append, leF, leH_nil, leH_cons, leF_nil, lk, scp, scpL, scpO, resF, resH, resO, resV, resVL, nth, Nat.reduceBEq, Nat.reduceLT, decide_true, decide_false, List.length, List.length_cons, List.length_nil, Nat.reduceAdd, Bool.and_self, Bool.and_true, and_true, true_and, numF] <;> try simp))
end Go.Proofs.Ytbkpiljencaoeaa
