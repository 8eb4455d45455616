/- shuntref26.Clocks. -/
import Derived.Test.YtnedgfkgmdoahaaClkR2
import Derived.Test.YtnedgfkgmdoahaaClkCodeT
set_option linter.unusedSimpArgs false
set_option linter.unusedVariables false
set_option linter.unnecessarySimpa false
namespace Go.Proofs.Ytnedgfkgmdoahaa
open Go Go.Sx Go.Clk
set_option maxRecDepth 100000
theorem rgetC (f : Ck) {p : Int} (h0 : 0 ≤ p) (h1 : p < 4) : (ckV f)[0 + p.toNat * 1]? = some (.int .i64 (f p.toNat)) := by
 rcases four h0 h1 with rfl | rfl | rfl | rfl <;> rfl
theorem rsetC (f : Ck) {p : Int} (h0 : 0 ≤ p) (h1 : p < 4) (v : Int) : setn (ckV f) (0 + p.toNat * 1) (.int .i64 v) = ckV (fun j => if j = p.toNat then v else f j) := by
 rcases four h0 h1 with rfl | rfl | rfl | rfl <;> rfl
noncomputable def cvN (l : List Sy) (k i : Nat) : Ck := fun j => if i ≤ k then (cntP l j (fun a => hbB l a k) i : Int) else clk l k j
theorem cv_in (l : List Sy) {k i : Nat} (h : i ≤ k) (j : Nat) : cvN l k i j = (cntP l j (fun a => hbB l a k) i : Int) := if_pos h
theorem cv_out (l : List Sy) {k i : Nat} (h : k < i) (j : Nat) : cvN l k i j = clk l k j := if_neg (by omega)
theorem cv_end (l : List Sy) (k : Nat) : cvN l k (k + 1) = clk l k := funext fun j => cv_out l (by omega) j
theorem cv_hit {l : List Sy} {k i : Nat} (h : i < k) (hb : hbB l i k = true) : (fun j => if j = co l i then cvN l k i j + 1 else cvN l k i j) = cvN l k (i + 1) := funext fun j => by
 rw [cv_in l (by omega), cv_in l (by omega)]
 simp only [cntP, hb, true_and]
 by_cases e : j = co l i
 ·rw [if_pos e, if_pos e.symm]; omega
 ·rw [if_neg e, if_neg fun h => e h.symm]; omega
theorem cv_miss {l : List Sy} {k i : Nat} (h : i < k) (hb : hbB l i k = false) : cvN l k i = cvN l k (i + 1) := funext fun j => by
 rw [cv_in l (by omega), cv_in l (by omega)]
 simp only [cntP, hb]
 simp
theorem cv_self (l : List Sy) (k : Nat) : (fun j => if j = co l k then cvN l k k j + 1 else cvN l k k j) = cvN l k (k + 1) := funext fun j => by
 have := clk_sum l k j (fun a => hbB l a k) fun i _ => by unfold hbB; simp
 rw [cv_in l (Nat.le_refl _), cv_out l (by omega)]
 by_cases e : j = co l k
 ·rw [if_pos e]; rw [if_pos e.symm] at this; exact this
 ·rw [if_neg e]; rw [if_neg fun h => e h.symm] at this; omega
theorem cv_le (l : List Sy) (k i j : Nat) : cvN l k i j ≤ 0 + (k + 1) ∧ 0 ≤ cvN l k i j := by
 have h1 := clk_small l k j
 have h2 := clk_nn l k j
 have h3 : ∀ i, cntP l j (fun a => hbB l a k) i ≤ i := fun i => by
  induction i with
  | zero => exact Nat.le_refl _
  | succ i ih => simp only [cntP]; split <;> omega
 have := h3 i
 by_cases h : i ≤ k
 ·rw [cv_in l h]; omega
 ·rw [cv_out l (by omega)]; omega
structure OutI where
 k : Nat
 B : Option Addr
 c : Nat
theorem refclocks20 (A : Option Addr) (c : Nat) (l : List Sy) (w : World) (hA : RowAt w A (cellsS l)) (hl : l.length ≤ 1000) :
  CallsV Try.prog 20 [.slice A l.length c] w fun v w' => Fresh w w' ∧
   ((okLs l ∧ ∃ (B : Option Addr) (bc : Nat), v = .tuple #[.slice B l.length bc, .int .i64 0] ∧ RowAt w' B (cellsC (clks l l.length))) ∨ (¬ okLs l ∧ v = .tuple #[.slice none 0 0, .int .i64 260])) := by
 refine calls_go (keep := K20) (nt := 53) (svs := [.val (.slice A l.length c)]) Try.func20 x20 n20 (by simp) (by simp [IsL, Is]) fun R hR => ?_
 (refine Y_go 600 ?_; dsimp only [X20, numF, Nat.reduceAdd, zq9r, zq9q, Y_k, zq4u, zq8p, zq6u, YK, zq8t, zq6q, zq9i, normF, zq6n, Nat.reduceBEq, zq6l, zq6k, zq6m, zq86, zq87, zq9y, t20n15, T20n15, zq8o, zq9j])
 by_cases ho : okLs l
 ·refine call_val (R := fun v => v = .bool true) (vs := [.slice A l.length c]) rfl (fun W hW => (refmay51 A c l W (hA.keep hW.fresh') hl).mono fun v w' q => ⟨by rw [q.1, decide_eq_true ho], q.2⟩) fun v hv => ⟨.bt, by rw [hv]; simp [Is], ?_⟩
  (refine Y_go 600 ?_; dsimp only [zq8t, Y_k, zq4u, zq8o, zq6n, Nat.reduceBEq, zq6k, YK, zq9i, normF, zq6l, zq6m, zq86, zq89, zq87, zq9y, t20n14, T20n14, zq9r, zq9q, zq53, zq0m, zq8a, zq9s, zq6g, YC, zq9p, t20n13, T20n13, zq9j])
  refine call_base (vs := [.slice A l.length c]) rfl (R := fun W v w' => ∃ (gs : Nat → Nat) (B : Option Addr) (bc : Nat), v = .slice B l.length bc ∧ TabAt w' B gs (hbB l) l.length l.length ∧ Fresh W w') (fun W hW => refahead26 A c l W (hA.keep hW.fresh') ho.1 ho.2) (fun _ _ _ hr => by obtain ⟨_, _, _, _, _, hf⟩ := hr; exact hf) fun W v W1 hW hr ov => ?_
  obtain ⟨gs, T, tc, hv, hT, hf⟩ := hr
  refine ⟨.val (.slice T l.length tc), by rw [hv]; simp [Is], ?_⟩
  have hf1 : Fresh w W1 := hW.fresh'.tr hf
  have hA1 := hA.keep hf1
  simp only [putF]
  show G _ ⟨W1, W1.heap.size, [], 53, []⟩ _ _
  clear hv hf ov hW W
  (refine Y_go 600 ?_; dsimp only [Y_k, zq4u, zq8o, zq6n, Nat.reduceBEq, zq6k, YK, zq8t, zq9i, normF, zq6l, zq6m, zq86, zq8a, zq87, zq89, zq9y, t20n12, T20n12, zq9r, zq9q, zq8p, zq6u, t20n11, T20n11, zq6q, zq9t, zq9v])
  refine loop_go (α := OutI) (fun q => q.k ≤ l.length) (fun _ => ⟨W1, W1.heap.size, [], 53, []⟩)
   (fun q => { F := [(0, .val (.slice A l.length c)), (5, .val (.slice T l.length tc)), (6, .own 0 0), (7, .val (.int .i64 q.k))], H := [.own 56 0 4 q.B q.k q.c (cellsC (clks l q.k))] }) (fun q => l.length - q.k) (fun _ => rfl) ?start ?round
  case start =>
   intro a W rep
   exact ⟨⟨0, none, 0⟩, Nat.zero_le _, (rep.adopt 6 56 4 rfl).le (by (simp only [setn, List.nil_append, List.cons_append, leF, leH_nil, leH_cons, leF_nil, lk, scp, scpL, scpO, resF, resH, resO, resV, resVL, nth, Nat.reduceBEq, Nat.reduceLT, decide_true, decide_false, List.length, List.length_cons, List.length_nil, Nat.reduceAdd, Bool.and_self, Bool.and_true, and_true, true_and, numF] <;> try simp)) (by (simp only [setn, List.nil_append, List.cons_append, leF, leH_nil, leH_cons, leF_nil, lk, scp, scpL, scpO, resF, resH, resO, resV, resVL, nth, Nat.reduceBEq, Nat.reduceLT, decide_true, decide_false, List.length, List.length_cons, List.length_nil, Nat.reduceAdd, Bool.and_self, Bool.and_true, and_true, true_and, numF] <;> try simp); rfl)⟩
  case round =>
   rintro ⟨k, B, bc⟩ hk I again
   have hk : k ≤ l.length := hk
   by_cases hlt : k < l.length
   ·(refine Y_go 600 ?_; dsimp only [zq9y, t20n9, T20n9, zq9r, zq9q, Y_k, zq4u, zq8o, zq6n, Nat.reduceBEq, zq6l, zq6k, YK, zq8t, zq55, zq0r, zq50, zq04, zq92, zq9b, zq0i, zq9e, zq9i, normF, zq6m, zq86, zq87, zq8f, zq9s, zq6h, zq8x, YC, zq9p, t20n8, T20n8, zq9t, zq5e, List.length_cons, List.length_nil, Nat.reduceAdd, List.map, zq6q, List.cons_append, List.nil_append, zq89, zq8c, t20n6, T20n6, zq8p, zq9v, zq9u, popTo, zq6i, YP, t20n10, T20n10, zq8a, zq9x])
    refine ⟨fun _ g => ?_, fun q => absurd (of_decide_eq_false q) (by omega)⟩
    have h4 := ho.1
    refine torow_rule 1 (xs := ckV (cvN l k 0)) rfl rfl ?_
    dsimp only [setn]
    refine loop_go (α := Nat) (fun i => i ≤ k + 1) (fun _ => ⟨W1, W1.heap.size, [], 53, []⟩)
     (fun i => { F := [(0, .val (.slice A l.length c)), (5, .val (.slice T l.length tc)), (6, .own 0 0), (7, .val (.int .i64 k)), (8, .ptr 1 0), (9, .val (.int .i64 i))], H := [.own 56 0 4 B k bc (cellsC (clks l k)), .row g 56 (ckV (cvN l k i))] }) (fun i => k + 1 - i) (fun _ => rfl) ?start2 ?round2
    case start2 =>
     intro a W rep
     exact ⟨0, Nat.zero_le _, rep.le (by (simp only [setn, List.nil_append, List.cons_append, leF, leH_nil, leH_cons, leF_nil, lk, scp, scpL, scpO, resF, resH, resO, resV, resVL, nth, Nat.reduceBEq, Nat.reduceLT, decide_true, decide_false, List.length, List.length_cons, List.length_nil, Nat.reduceAdd, Bool.and_self, Bool.and_true, and_true, true_and, numF] <;> try simp)) (by (simp only [setn, List.nil_append, List.cons_append, leF, leH_nil, leH_cons, leF_nil, lk, scp, scpL, scpO, resF, resH, resO, resV, resVL, nth, Nat.reduceBEq, Nat.reduceLT, decide_true, decide_false, List.length, List.length_cons, List.length_nil, Nat.reduceAdd, Bool.and_self, Bool.and_true, and_true, true_and, numF] <;> try simp))⟩
    case round2 =>
     intro i hi I2 again2
     have hi : i ≤ k + 1 := hi
     by_cases hik : i ≤ k
     ·have sA : A.isSome = true := hA1.isSome (j := i * 3) (by rw [cellsS_len]; omega)
      have bi : 0 ≤ (i : Int) ∧ (i : Int) < (l.length : Int) ∧ A.isSome = true := ⟨by omega, by omega, sA⟩
      have hco : 0 ≤ (at' l i).core ∧ (at' l i).core < ((4 : Nat) : Int) := by
       have hat : at' l i = l[i] := by unfold at'; rw [List.getD_eq_getElem?_getD, List.getElem?_eq_getElem (by omega)]; rfl
       have := ho.2 _ (List.getElem_mem (show i < l.length by omega))
       rw [hat]; exact ⟨this.1, this.2.1⟩
      have hcc : (at' l i).core.toNat = co l i := rfl
      have ci := fun m v hk => syCell (l := l) (rowE0c hA1 53 []) (show i < l.length by omega) m v hk
      have hle := cv_le l k i (co l i)
      have hit : ∀ f : Ck, (fun j => if j = co l i then cvN l k i j + 1 else cvN l k i j) = f → setn (ckV (cvN l k i)) (0 + (at' l i).core.toNat * 1) (.int .i64 (cvN l k i (co l i) + 1)) = ckV f := fun f hf => by
       rw [rsetC _ hco.1 hco.2, ← hf]
       congr 1
       funext j
       rw [hcc]
       by_cases e : j = co l i
       ·rw [if_pos e, if_pos e, e]
       ·rw [if_neg e, if_neg e]
      have add1 : ArOk .add .i64 (i : Int) 1 ((i + 1 : Nat) : Int) := ArOk.to (by omega) (by omega) (by omega)
      have hget : (ckV (cvN l k i))[0 + (at' l i).core.toNat * 1]? = some (.int .i64 (cvN l k i (co l i))) := rgetC _ hco.1 hco.2
      have addc : ArOk .add .i64 (cvN l k i (co l i)) 1 (cvN l k i (co l i) + 1) := ArOk.add64 (by omega) (by omega)
      have hlen : 0 + (at' l i).core.toNat * 1 + 1 ≤ (ckV (cvN l k i)).length := by simp only [ckV, List.length_cons, List.length_nil]; omega
      by_cases hek : i = k
      ·subst hek
       (refine Y_go 600 ?_; dsimp only [zq9y, t20n4, T20n4, zq9r, zq9q, Y_k, zq4u, zq8o, zq6n, Nat.reduceBEq, zq6l, zq6k, YK, zq8t, zq50, zq04, zq92, zq9b, zq0i, zq9f, zq9i, normF, zq6m, zq86, zq87, zq8c, zq8f, zq9s, zq6h, zq8x, YC, zq9p, t20n3, T20n3, zq9t, zq9c, Y_gk, zq6e, YS, zq6a, zq4v, zq8p, zq6o, zq0b, zq89, zq6f, t20n1, T20n1, zq58, zq06, zq0w, zq5a, zq16, Nat.add_zero, zq5c, zq1p, zq1c, List.nil_append, zq1b, zq18, zq59, zq10, zq1o, nth, zq1l, zq4w, zq6q, zq0e, zq5d, zq7u, zq73, zq0a, zq1x, zq1u, denL, den, zq1s, splice, setn, zq8s, zqa1, t20n2, T20n2, zqa2, YR, zq6c, zq1g, zq1d, zq0c, zq8a, zq9u, popTo, zq6i, YP, t20n5, T20n5, Nat.reduceAdd, List.cons_append, zq17, zq5h, List.map, repL, zq23, Nat.reduceMul, zq7t, List.length_cons, List.length_nil, zq8l, zq8m, zq8k, dropL, takeL, zq20, zq24, zq26, zq5l, zq2w, zq09, zq08, zq2s, zq2r, zq2n, zq2j, zq2k, zq2l, zq2h, t20n7, T20n7])
       refine ⟨fun _ => ⟨fun _ => ?_, fun q => absurd q (by simp)⟩, fun q => absurd (of_decide_eq_false q) (by omega)⟩
       refine ⟨bi, sA, _, ci 0 _ rfl, hco, _, hget, _, addc, hco, hlen, _, add1, lend_rule fun a W rep => again2 (i + 1) (by omega) (by omega) a W ?_⟩
       rw [hit _ (cv_self l i)] at rep
       exact rep.le (by (simp only [setn, List.nil_append, List.cons_append, leF, leH_nil, leH_cons, leF_nil, lk, scp, scpL, scpO, resF, resH, resO, resV, resVL, nth, Nat.reduceBEq, Nat.reduceLT, decide_true, decide_false, List.length, List.length_cons, List.length_nil, Nat.reduceAdd, Bool.and_self, Bool.and_true, and_true, true_and, numF] <;> try simp)) (by (simp only [setn, List.nil_append, List.cons_append, leF, leH_nil, leH_cons, leF_nil, lk, scp, scpL, scpO, resF, resH, resO, resV, resVL, nth, Nat.reduceBEq, Nat.reduceLT, decide_true, decide_false, List.length, List.length_cons, List.length_nil, Nat.reduceAdd, Bool.and_self, Bool.and_true, and_true, true_and, numF] <;> try simp))
      ·have bT : 0 ≤ (i : Int) ∧ (i : Int) < (l.length : Int) ∧ T.isSome = true := ⟨by omega, by omega, hT.1.isSome (j := i) (by rw [tabV_len]; omega)⟩
       have bk : 0 ≤ (k : Int) ∧ (k : Int) < (l.length : Int) ∧ (some (⟨gs i, 0, none⟩ : Addr)).isSome = true := ⟨by omega, by omega, rfl⟩
       have ct : CellAt ⟨W1, W1.heap.size, [], 53, []⟩ T ((i : Int).toNat * 1) (.slice (some ⟨gs i, 0, none⟩) l.length l.length) := (rowE0c hT.1 53 []).cell (by rw [Int.toNat_natCast, Nat.mul_one]; exact tabV_get (by omega))
       have cb : CellAt ⟨W1, W1.heap.size, [], 53, []⟩ (some ⟨gs i, 0, none⟩) ((k : Int).toNat * 1) (.bool (hbB l i k)) := (rowE0c (hT.2 i (by omega)) 53 []).cell (by rw [Int.toNat_natCast, Nat.mul_one]; exact rwV_get _ (by omega))
       (refine Y_go 600 ?_; dsimp only [zq9y, t20n4, T20n4, zq9r, zq9q, Y_k, zq4u, zq8o, zq6n, Nat.reduceBEq, zq6l, zq6k, YK, zq8t, zq50, zq04, zq92, zq9b, zq0i, zq9f, zq9i, normF, zq6m, zq86, zq87, zq8c, zq8f, zq9s, zq6h, zq8x, YC, zq9p, t20n3, T20n3, zq9t, zq9c, Y_gk, zq6e, YS, zq6a, zq4v, zq8p, zq6o, zq0b, zq89, zq6f, t20n1, T20n1, zq58, zq06, zq0w, zq5a, zq16, Nat.add_zero, zq5c, zq1p, zq1c, List.nil_append, zq1b, zq18, zq59, zq10, zq1o, nth, zq1l, zq4w, zq6q, zq0e, zq5d, zq7u, zq73, zq0a, zq1x, zq1u, denL, den, zq1s, splice, setn, zq8s, zqa1, t20n2, T20n2, zqa2, YR, zq6c, zq1g, zq1d, zq0c, zq8a, zq9u, popTo, zq6i, YP, t20n5, T20n5, Nat.reduceAdd, List.cons_append, zq17, zq5h, List.map, repL, zq23, Nat.reduceMul, zq7t, List.length_cons, List.length_nil, zq8l, zq8m, zq8k, dropL, takeL, zq20, zq24, zq26, zq5l, zq2w, zq09, zq08, zq2s, zq2r, zq2n, zq2j, zq2k, zq2l, zq2h, t20n7, T20n7])
       refine ⟨fun _ => ⟨fun q => absurd (eq_of_beq q) (by omega), fun _ => ?_⟩, fun q => absurd (of_decide_eq_false q) (by omega)⟩
       refine ⟨bT, _, _, _, ct, bk, _, cb, fun hb => ?_, fun hb => ?_⟩
       ·refine ⟨bi, sA, _, ci 0 _ rfl, hco, _, hget, _, addc, hco, hlen, _, add1, lend_rule fun a W rep => again2 (i + 1) (by omega) (by omega) a W ?_⟩
        rw [hit _ (cv_hit (by omega) hb)] at rep
        exact rep.le (by (simp only [setn, List.nil_append, List.cons_append, leF, leH_nil, leH_cons, leF_nil, lk, scp, scpL, scpO, resF, resH, resO, resV, resVL, nth, Nat.reduceBEq, Nat.reduceLT, decide_true, decide_false, List.length, List.length_cons, List.length_nil, Nat.reduceAdd, Bool.and_self, Bool.and_true, and_true, true_and, numF] <;> try simp)) (by (simp only [setn, List.nil_append, List.cons_append, leF, leH_nil, leH_cons, leF_nil, lk, scp, scpL, scpO, resF, resH, resO, resV, resVL, nth, Nat.reduceBEq, Nat.reduceLT, decide_true, decide_false, List.length, List.length_cons, List.length_nil, Nat.reduceAdd, Bool.and_self, Bool.and_true, and_true, true_and, numF] <;> try simp))
       ·refine ⟨_, add1, lend_rule fun a W rep => again2 (i + 1) (by omega) (by omega) a W ?_⟩
        rw [cv_miss (by omega) hb] at rep
        exact rep.le (by (simp only [setn, List.nil_append, List.cons_append, leF, leH_nil, leH_cons, leF_nil, lk, scp, scpL, scpO, resF, resH, resO, resV, resVL, nth, Nat.reduceBEq, Nat.reduceLT, decide_true, decide_false, List.length, List.length_cons, List.length_nil, Nat.reduceAdd, Bool.and_self, Bool.and_true, and_true, true_and, numF] <;> try simp)) (by (simp only [setn, List.nil_append, List.cons_append, leF, leH_nil, leH_cons, leF_nil, lk, scp, scpL, scpO, resF, resH, resO, resV, resVL, nth, Nat.reduceBEq, Nat.reduceLT, decide_true, decide_false, List.length, List.length_cons, List.length_nil, Nat.reduceAdd, Bool.and_self, Bool.and_true, and_true, true_and, numF] <;> try simp))
     ·have hie : i = k + 1 := by omega
      subst hie
      (refine Y_go 600 ?_; dsimp only [zq9y, t20n4, T20n4, zq9r, zq9q, Y_k, zq4u, zq8o, zq6n, Nat.reduceBEq, zq6l, zq6k, YK, zq8t, zq50, zq04, zq92, zq9b, zq0i, zq9f, zq9i, normF, zq6m, zq86, zq87, zq8c, zq8f, zq9s, zq6h, zq8x, YC, zq9p, t20n3, T20n3, zq9t, zq9c, Y_gk, zq6e, YS, zq6a, zq4v, zq8p, zq6o, zq0b, zq89, zq6f, t20n1, T20n1, zq58, zq06, zq0w, zq5a, zq16, Nat.add_zero, zq5c, zq1p, zq1c, List.nil_append, zq1b, zq18, zq59, zq10, zq1o, nth, zq1l, zq4w, zq6q, zq0e, zq5d, zq7u, zq73, zq0a, zq1x, zq1u, denL, den, zq1s, splice, setn, zq8s, zqa1, t20n2, T20n2, zqa2, YR, zq6c, zq1g, zq1d, zq0c, zq8a, zq9u, popTo, zq6i, YP, t20n5, T20n5, Nat.reduceAdd, List.cons_append, zq17, zq5h, List.map, repL, zq23, Nat.reduceMul, zq7t, List.length_cons, List.length_nil, zq8l, zq8m, zq8k, dropL, takeL, zq20, zq24, zq26, zq5l, zq2w, zq09, zq08, zq2s, zq2r, zq2n, zq2j, zq2k, zq2l, zq2h, t20n7, T20n7])
      refine ⟨fun q => absurd (of_decide_eq_true q) (by omega), fun _ => ?_⟩
      refine ⟨_, rfl, _, rfl, _, rfl, _, rfl, fun g1 => ⟨⟨by simp only [maxLen]; omega, by omega⟩, fun B2 bc2 => ⟨((k + 1 : Nat) : Int), ArOk.to (by omega) (by omega) (by omega), lend_rule fun a W rep => again ⟨k + 1, B2, bc2⟩ hlt (by simp only; omega) a W ?_⟩⟩⟩
      have e1 : cellsC (clks l k) ++ [Value.int .i64 (cvN l k (k + 1) 0), .int .i64 (cvN l k (k + 1) 1), .int .i64 (cvN l k (k + 1) 2), .int .i64 (cvN l k (k + 1) 3)] = cellsC (clks l (k + 1)) := by
       rw [clks_succ, cellsC_app, cv_end]; rfl
      rw [e1] at rep
      exact rep.res.le (by (simp only [setn, List.nil_append, List.cons_append, leF, leH_nil, leH_cons, leF_nil, lk, scp, scpL, scpO, resF, resH, resO, resV, resVL, nth, Nat.reduceBEq, Nat.reduceLT, decide_true, decide_false, List.length, List.length_cons, List.length_nil, Nat.reduceAdd, Bool.and_self, Bool.and_true, and_true, true_and, numF] <;> try simp)) (by (simp only [setn, List.nil_append, List.cons_append, leF, leH_nil, leH_cons, leF_nil, lk, scp, scpL, scpO, resF, resH, resO, resV, resVL, nth, Nat.reduceBEq, Nat.reduceLT, decide_true, decide_false, List.length, List.length_cons, List.length_nil, Nat.reduceAdd, Bool.and_self, Bool.and_true, and_true, true_and, numF] <;> try simp))
   ·(refine Y_go 600 ?_; dsimp only [zq9y, t20n9, T20n9, zq9r, zq9q, Y_k, zq4u, zq8o, zq6n, Nat.reduceBEq, zq6l, zq6k, YK, zq8t, zq55, zq0r, zq50, zq04, zq92, zq9b, zq0i, zq9e, zq9i, normF, zq6m, zq86, zq87, zq8f, zq9s, zq6h, zq8x, YC, zq9p, t20n8, T20n8, zq9t, zq5e, List.length_cons, List.length_nil, Nat.reduceAdd, List.map, zq6q, List.cons_append, List.nil_append, zq89, zq8c, t20n6, T20n6, zq8p, zq9v, zq9u, popTo, zq6i, YP, t20n10, T20n10, zq8a, zq9x])
    refine ⟨fun q => absurd (of_decide_eq_true q) (by omega), fun _ => ?_⟩
    have hke : k = l.length := by omega
    subst hke
    exact ret_rule (vs := [.slice B l.length bc, .int .i64 0]) r20 rfl rfl fun W hW => hR _ _ ⟨hf1.tr hW.fresh', .inl ⟨ho, B, bc, rfl, hW.rowAt (i := 0) rfl⟩⟩
 ·refine call_val (R := fun v => v = .bool false) (vs := [.slice A l.length c]) rfl (fun W hW => (refmay51 A c l W (hA.keep hW.fresh') hl).mono fun v w' q => ⟨by rw [q.1, decide_eq_false ho], q.2⟩) fun v hv => ⟨.bf, by rw [hv]; simp [Is], ?_⟩
  (refine Y_go 600 ?_; dsimp only [zq8t, Y_k, zq4u, zq8o, zq6n, Nat.reduceBEq, zq6k, YK, zq9i, normF, zq6l, zq6m, zq86, zq8a, zq87, zq9y, t20n14, T20n14, zq9r, zq9q, zq53, zq0n, zq89, zq9s, zq6f, YC, t20n0, T20n0, zq8p, zq6u, zq6q, zq9x])
  exact ret_rule (vs := [.slice none 0 0, .int .i64 260]) r20 rfl rfl fun W hW => hR _ _ ⟨hW.fresh', .inr ⟨ho, rfl⟩⟩
end Go.Proofs.Ytnedgfkgmdoahaa
