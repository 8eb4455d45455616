/- shuntref26.Ahead: the table of who is ahead of whom. -/
import Derived.Test.YtnedgfkgmdoahaaClkR1
import Derived.Test.YtnedgfkgmdoahaaClkCodeT
set_option linter.unusedSimpArgs false
set_option linter.unusedVariables false
set_option linter.unnecessarySimpa false
namespace Go.Proofs.Ytnedgfkgmdoahaa
open Go Go.Sx Go.Clk
set_option maxRecDepth 100000
structure TbI where
 i : Nat
 gs : Nat → Nat
 B : Option Addr
 c : Nat
theorem refahead26 (A : Option Addr) (c : Nat) (l : List Sy) (w : World) (hA : RowAt w A (cellsS l)) (hl : l.length ≤ 400) (hok : ∀ x ∈ l, okS x) :
  CallsV Try.prog 26 [.slice A l.length c] w fun v w' => ∃ (gs : Nat → Nat) (B : Option Addr) (bc : Nat), v = .slice B l.length bc ∧ TabAt w' B gs (hbB l) l.length l.length ∧ Fresh w w' := by
 refine calls_go (keep := K26) (nt := 109) (svs := [.val (.slice A l.length c)]) Try.func26 x26 n26 (by simp) (by simp [IsL, Is]) fun R hR => ?_
 (refine Y_go 600 ?_; dsimp only [X26, numF, Nat.reduceAdd, zq9r, zq9q, Y_k, zq4u, zq8p, zq6u, YK, zq8t, zq9i, normF, zq6n, Nat.reduceBEq, zq6l, zq6k, zq6m, zq86, zq87, zq9y, t26n18, T26n18, t26n17, T26n17, zq6q, zq9t, zq9v])
 have hcore : ∀ i, 0 ≤ (at' l i).core := fun i => by
  unfold at'
  rw [List.getD_eq_getElem?_getD]
  cases h : l[i]? with
  | none => decide
  | some x => exact (hok x (List.mem_of_getElem? h)).1
 refine loop_go (α := TbI) (fun q => q.i ≤ l.length) (fun _ => ⟨w, w.heap.size, [], 109, []⟩)
  (fun q => { F := [(0, .val (.slice A l.length c)), (3, .own 0 0), (4, .val (.int .i64 q.i))], H := [.own 51 0 1 q.B q.i q.c (tabV q.gs q.i l.length)] ++ tabF 4 q.gs (fun _ _ => false) q.i l.length }) (fun q => l.length - q.i) (fun _ => rfl) ?start ?round
 case start =>
  intro a W rep
  exact ⟨⟨0, fun _ => 0, none, 0⟩, Nat.zero_le _, (rep.adopt 3 51 1 rfl).le (by (simp only [setn, List.nil_append, List.cons_append, leF, leH_nil, leH_cons, leF_nil, lk, scp, scpL, scpO, resF, resH, resO, resV, resVL, nth, Nat.reduceBEq, Nat.reduceLT, decide_true, decide_false, List.length, List.length_cons, List.length_nil, Nat.reduceAdd, Bool.and_self, Bool.and_true, and_true, true_and, numF] <;> try simp)) (by simp only [tabF, tabV, List.range_zero, List.map_nil, List.append_nil]; (simp only [setn, List.nil_append, List.cons_append, leF, leH_nil, leH_cons, leF_nil, lk, scp, scpL, scpO, resF, resH, resO, resV, resVL, nth, Nat.reduceBEq, Nat.reduceLT, decide_true, decide_false, List.length, List.length_cons, List.length_nil, Nat.reduceAdd, Bool.and_self, Bool.and_true, and_true, true_and, numF] <;> try simp))⟩
 case round =>
  rintro ⟨i, gs, B, bc⟩ hi I again
  have hi : i ≤ l.length := hi
  by_cases hlt : i < l.length
  ·refine G.cut (H1 := [.own 51 0 1 B i bc (tabV gs i l.length)]) (r := tabF 4 gs (fun _ _ => false) i l.length) rfl (by (simp only [setn, List.nil_append, List.cons_append, leF, leH_nil, leH_cons, leF_nil, lk, scp, scpL, scpO, resF, resH, resO, resV, resVL, nth, Nat.reduceBEq, Nat.reduceLT, decide_true, decide_false, List.length, List.length_cons, List.length_nil, Nat.reduceAdd, Bool.and_self, Bool.and_true, and_true, true_and, numF] <;> try simp)) fun W0 hW0 hov => ?_
   (refine Y_go 600 ?_; dsimp only [zq9y, t26n2, T26n2, zq9r, zq9q, Y_k, zq4u, zq8o, zq6n, Nat.reduceBEq, zq6l, zq6k, YK, zq8t, zq55, zq0r, zq50, zq04, zq92, zq9b, zq0i, zq9e, zq9i, normF, zq6m, zq86, zq87, zq8f, zq9s, zq6h, zq8x, YC, zq9p, t26n1, T26n1, zq9t, zq67, zq06, zq4t, List.length_cons, List.length_nil, Nat.reduceAdd, List.cons_append, List.nil_append, zq5h, List.map, zq6u, repL, zq23, Nat.reduceMul, zq81, zq7n, zq0a, dropL, takeL, zq20, splice, setn, zq24, zq26, zq5l, zq2w, nth, zq09, zq08, zq2s, zq2r, zq2n, zq2j, zq2k, zq8l, zq8m, zq8k, denL, den, zq2l, zq2h, zq89, zqa1, t26n0, T26n0, zq4w, zq8p, zq6q, zq0e, zqa2, zq9u, popTo, zq6i, YP, t26n16, T26n16, zq8a, zq9v])
   refine ⟨fun _ => ?_, fun q => absurd (of_decide_eq_false q) (by omega)⟩
   refine ⟨⟨by omega, by omega, by omega, by omega⟩, fun g g1 => ⟨⟨by simp only [maxLen]; omega, by omega⟩, fun A1 c1 => ⟨((i + 1 : Nat) : Int), ArOk.to (by omega) (by omega) (by omega), lend_rule fun a W rep => again ⟨i + 1, fun a => if a = i then g else gs a, A1, c1⟩ hlt (by simp only; omega) a W ?_⟩⟩⟩
   rw [Int.toNat_natCast, rwV_zero] at rep
   have e1 : tabV (fun a => if a = i then g else gs a) (i + 1) l.length = tabV gs i l.length ++ [.slice (some ⟨g, 0, none⟩) l.length l.length] := by
    rw [tabV_succ, if_pos rfl]
    rw [tabV_congr (gs' := gs) fun a ha => if_neg (by omega)]
   have e2 : tabF 4 (fun a => if a = i then g else gs a) (fun _ _ => false) (i + 1) l.length = tabF 4 gs (fun _ _ => false) i l.length ++ [.own 4 0 1 (some ⟨g, 0, none⟩) l.length l.length (rwV l.length fun _ => false)] := by
    rw [tabF_succ, if_pos rfl]
    rw [tabF_congr (gs' := gs) (M' := fun _ _ => false) fun a ha => ⟨if_neg (by omega), fun _ _ => rfl⟩]
   simp only [e1, e2]
   have r1 : Rep ⟨W0, W0.heap.size, fps [.own 51 0 1 B i bc (tabV gs i l.length)], 109, []⟩ { F := [(0, .val (.slice A l.length c)), (3, .own 0 0), (4, .val (.int .i64 ((i + 1 : Nat) : Int)))], H := [.own 51 0 1 A1 (i + 1) c1 (tabV gs i l.length ++ [.slice (some ⟨g, 0, none⟩) l.length l.length]), .own 4 0 1 (some ⟨g, 0, none⟩) l.length l.length (rwV l.length fun _ => false)] } a W := (rep.res.pick [0, 1] (by decide)).le (by (simp only [renF, renV, renVL, renO, pickH, pickE, posOf, setn, List.nil_append, List.cons_append, leF, leH_nil, leH_cons, leF_nil, lk, scp, scpL, scpO, resF, resH, resO, resV, resVL, nth, Nat.reduceBEq, Nat.reduceLT, decide_true, decide_false, List.length, List.length_cons, List.length_nil, Nat.reduceAdd, Bool.and_self, Bool.and_true, and_true, true_and, numF] <;> try simp)) (by (simp only [renF, renV, renVL, renO, pickH, pickE, posOf, setn, List.nil_append, List.cons_append, leF, leH_nil, leH_cons, leF_nil, lk, scp, scpL, scpO, resF, resH, resO, resV, resVL, nth, Nat.reduceBEq, Nat.reduceLT, decide_true, decide_false, List.length, List.length_cons, List.length_nil, Nat.reduceAdd, Bool.and_self, Bool.and_true, and_true, true_and, numF] <;> try simp))
   have r2 := Rep.back hW0 (tabF_shut _ _ _ _ _) r1 (Over.refl _) rfl rfl
   exact Rep.fam' (b := [.own 51 0 1 A1 (i + 1) c1 (tabV gs i l.length ++ [.slice (some ⟨g, 0, none⟩) l.length l.length])]) (r := [.own 4 0 1 (some ⟨g, 0, none⟩) l.length l.length (rwV l.length fun _ => false)] ++ tabF 4 gs (fun _ _ => false) i l.length) r2 (by (simp only [setn, List.nil_append, List.cons_append, leF, leH_nil, leH_cons, leF_nil, lk, scp, scpL, scpO, resF, resH, resO, resV, resVL, nth, Nat.reduceBEq, Nat.reduceLT, decide_true, decide_false, List.length, List.length_cons, List.length_nil, Nat.reduceAdd, Bool.and_self, Bool.and_true, and_true, true_and, numF] <;> try simp)) rfl (fun e he => by
    rcases List.mem_append.1 he with h | h
    ·simp only [List.mem_singleton] at h; subst h; rfl
    ·exact tabF_shut _ _ _ _ _ e h) List.perm_append_comm
  ·have hin : i = l.length := by omega
   subst hin
   (refine Y_go 600 ?_; dsimp only [List.cons_append, List.nil_append, zq9y, t26n2, T26n2, zq9r, zq9q, Y_k, zq4u, zq8o, zq6n, Nat.reduceBEq, zq6l, zq6k, YK, zq8t, zq55, zq0r, zq50, zq04, zq92, zq9b, zq0i, zq9e, zq9i, normF, zq6m, zq86, zq87, zq8f, zq9s, zq6h, zq8x, YC, zq9p, t26n1, T26n1, zq9t, zq67, zq06, zq4t, List.length_cons, zq5h, List.map, zq6u, repL, zq23, Nat.reduceMul, zq81, zq7n, zq0a, dropL, takeL, zq20, splice, setn, zq24, zq26, zq5l, zq2w, nth, zq09, zq08, zq2s, zq2r, zq2n, zq9u, popTo, zq6i, YP, t26n16, T26n16, zq8p, zq6q, zq8a, zq9v])
   refine ⟨fun q => absurd (of_decide_eq_true q) (by omega), fun _ => ?_⟩
   clear again
   generalize hn : l.length = n at *
   refine loop_go (α := Nat) (fun k => k ≤ n) (fun _ => ⟨w, w.heap.size, [], 109, []⟩)
    (fun k => { F := [(0, .val (.slice A n c)), (3, .own 0 0), (5, .val (.int .i64 k))], H := [.own 51 0 1 B n bc (tabV gs n n)] ++ tabF 4 gs (mat0 l k k) n n }) (fun k => n - k) (fun _ => rfl) ?start ?round
   case start =>
    intro a W rep
    refine ⟨0, Nat.zero_le _, ?_⟩
    rw [tabF_congr (M' := fun _ _ => false) fun a ha => ⟨rfl, fun k _ => mat0_start l a k⟩]
    exact rep.few 1 (by (simp only [setn, List.nil_append, List.cons_append, leF, leH_nil, leH_cons, leF_nil, lk, scp, scpL, scpO, resF, resH, resO, resV, resVL, nth, Nat.reduceBEq, Nat.reduceLT, decide_true, decide_false, List.length, List.length_cons, List.length_nil, Nat.reduceAdd, Bool.and_self, Bool.and_true, and_true, true_and, numF] <;> try simp))
   case round =>
    intro k hk I again
    have hk : k ≤ n := hk
    by_cases hkn : k < n
    ·(refine Y_go 600 ?_; dsimp only [List.cons_append, List.nil_append, zq9y, t26n14, T26n14, zq9r, zq9q, Y_k, zq4u, zq8o, zq6n, Nat.reduceBEq, zq6l, zq6k, YK, zq8t, zq55, zq0r, zq50, zq04, zq92, zq9b, zq0i, zq9e, zq9i, normF, zq6m, zq86, zq87, zq8f, zq9s, zq6h, zq8x, YC, zq9p, t26n13, T26n13, zq9t, zq4w, zq8p, zq6q, zq0e, zq89, zq9v, zq9u, popTo, zq6i, YP, t26n15, T26n15, zq8a, zq9x])
     refine ⟨fun _ => ?_, fun q => absurd (of_decide_eq_false q) (by omega)⟩
     refine ⟨(k : Int) - 1, ArOk.toSub rfl (by omega) (by omega), ?_⟩
     refine loop_go (α := Nat) (fun i0 => i0 ≤ k) (fun _ => ⟨w, w.heap.size, [], 109, []⟩)
      (fun i0 => { F := [(0, .val (.slice A n c)), (3, .own 0 0), (5, .val (.int .i64 k)), (6, .val (.int .i64 ((i0 : Int) - 1)))], H := [.own 51 0 1 B n bc (tabV gs n n)] ++ tabF 4 gs (mat0 l k i0) n n }) (fun i0 => i0) (fun _ => rfl) ?start2 ?round2
     case start2 =>
      intro a W rep
      exact ⟨k, Nat.le_refl _, rep.few 1 (by (simp only [setn, List.nil_append, List.cons_append, leF, leH_nil, leH_cons, leF_nil, lk, scp, scpL, scpO, resF, resH, resO, resV, resVL, nth, Nat.reduceBEq, Nat.reduceLT, decide_true, decide_false, List.length, List.length_cons, List.length_nil, Nat.reduceAdd, Bool.and_self, Bool.and_true, and_true, true_and, numF] <;> try simp))⟩
     case round2 =>
      intro i0 hi0 I2 again2
      have hi0 : i0 ≤ k := hi0
      by_cases h0 : i0 = 0
      ·subst h0
       (refine Y_go 600 ?_; dsimp only [List.cons_append, List.nil_append, zq9y, t26n11, T26n11, zq9r, zq9q, Y_k, zq4u, zq8o, zq6n, Nat.reduceBEq, zq6l, zq6k, YK, zq8t, zq50, zq8p, zq6q, zq04, zq92, zq9b, zq0i, zq9h, zq9i, normF, zq6m, zq86, zq87, zq8f, zq9s, zq6h, zq8x, YC, zq9p, t26n10, T26n10, zq9t, zq58, zq06, zq0w, zq5a, zq16, zq5c, zq1p, zq1c, zq1b, zq18, zq9c, Y_gk, zq6d, YR, zq69, zq4v, zq6p, zq0b, zq89, t26n8, T26n8, Nat.add_zero, zq9d, zq53, zq0o, zq9u, popTo, zq6i, YP, t26n9, T26n9, zq4w, zq0e, zqa2, t26n7, T26n7, zq0y, nth, zq09, zq08, zq0v, zq1q, zq1n, zq1g, zq5d, zq6o, zq7v, zq7h, zq0a, YS, zq6b, zq0c, zq8a, zq6g, zq0n, zq6f, zqa1, t26n12, T26n12])
       refine ⟨fun q => absurd q (by decide), fun _ => ?_⟩
       refine ⟨((k + 1 : Nat) : Int), ArOk.to (by omega) (by omega) (by omega), lend_rule fun a W rep => again (k + 1) hkn (by omega) a W ?_⟩
       rw [tabF_congr (M' := mat0 l k 0) fun a ha => ⟨rfl, fun b _ => (mat0_next l k a b).symm⟩]
       exact rep.few 1 (by (simp only [setn, List.nil_append, List.cons_append, leF, leH_nil, leH_cons, leF_nil, lk, scp, scpL, scpO, resF, resH, resO, resV, resVL, nth, Nat.reduceBEq, Nat.reduceLT, decide_true, decide_false, List.length, List.length_cons, List.length_nil, Nat.reduceAdd, Bool.and_self, Bool.and_true, and_true, true_and, numF] <;> try simp))
      ·obtain ⟨i, rfl⟩ : ∃ i, i0 = i + 1 := ⟨i0 - 1, by omega⟩
       rw [show ((i + 1 : Nat) : Int) - 1 = (i : Int) by omega]
       have hik : i < k := by omega
       refine G.le (E' := ⟨w, w.heap.size, [], 109, []⟩) rfl (s' := { F := [(0, .val (.slice A n c)), (3, .own 0 0), (5, .val (.int .i64 k)), (6, .val (.int .i64 i))], H := [.own 51 0 1 B n bc (tabV gs n n), .own 4 0 1 (some ⟨gs i, 0, none⟩) n n (rwV n (mat0 l k (i + 1) i))] ++ tabX 4 gs (mat0 l k (i + 1)) n n i }) (fun a W rep => Rep.fam' (b := [.own 51 0 1 B n bc (tabV gs n n)]) rep (by (simp only [setn, List.nil_append, List.cons_append, leF, leH_nil, leH_cons, leF_nil, lk, scp, scpL, scpO, resF, resH, resO, resV, resVL, nth, Nat.reduceBEq, Nat.reduceLT, decide_true, decide_false, List.length, List.length_cons, List.length_nil, Nat.reduceAdd, Bool.and_self, Bool.and_true, and_true, true_and, numF] <;> try simp)) rfl (tabF_shut _ _ _ _ _) (tabF_out 4 gs (mat0 l k (i + 1)) n (by omega))) ?_
       refine G.cut rfl (by (simp only [setn, List.nil_append, List.cons_append, leF, leH_nil, leH_cons, leF_nil, lk, scp, scpL, scpO, resF, resH, resO, resV, resVL, nth, Nat.reduceBEq, Nat.reduceLT, decide_true, decide_false, List.length, List.length_cons, List.length_nil, Nat.reduceAdd, Bool.and_self, Bool.and_true, and_true, true_and, numF] <;> try simp)) fun W0 hW0 hov => ?_
       have hAE : RowE ⟨W0, W0.heap.size, fps [.own 51 0 1 B n bc (tabV gs n n), .own 4 0 1 (some ⟨gs i, 0, none⟩) n n (rwV n (mat0 l k (i + 1) i))], 109, []⟩ A (cellsS l) := (rowE0c hA 109 []).over hov
       have main : D l i k → G (cxOf Try.prog Try.f26 K26 T26 R) ⟨W0, W0.heap.size, fps [.own 51 0 1 B n bc (tabV gs n n), .own 4 0 1 (some ⟨gs i, 0, none⟩) n n (rwV n (mat0 l k (i + 1) i))], 109, []⟩
         [.ops [{ dst := some 79, guard := none, i := .k (.mov (.tmp 5)) }, { dst := some 80, guard := none, i := .k (.idx 1 (.tmp 78) (.tmp 79)) }, { dst := none, guard := none, i := .k (.store 1 (.tmp 80) (.const (.bool true))) }], .code (.ref 6), .blk 5, .code (.ref 9), .lend I2, .blk 4, .blk 3, .code (.ref 12), .lend I, .blk 2, .code (.ref 15)]
         { F := [(78, .val (.slice (some ⟨gs i, 0, none⟩) n n)), (0, .val (.slice A n c)), (3, .own 0 0), (5, .val (.int .i64 k)), (6, .val (.int .i64 i))], H := [.own 51 0 1 B n bc (tabV gs n n), .own 4 0 1 (some ⟨gs i, 0, none⟩) n n (rwV n (mat0 l k (i + 1) i))] } := by
        intro hD
        refine G.fold 78 1 rfl rfl ?_
        (refine Y_go 600 ?_; dsimp only [Y_k, zq4u, zq8o, zq6n, Nat.reduceBEq, zq6l, zq6k, YK, zq8t, zq58, zq06, zq0y, nth, zq09, zq08, zq0v, zq5d, zq8p, zq6o, zq7v, zq7h, zq0a, zq1y, zq1w, denL, den, zq1v, splice, setn, zq8s, zq9i, normF, zq6m, zq86, zq87, zq8f, zq9y, t26n6, T26n6, zq9r, zq9q, zq6q, zq9t, zq9v])
        refine ⟨⟨by omega, by omega⟩, by rw [rwV_len, Int.toNat_natCast]; omega, ?_⟩
        rw [Int.toNat_natCast, Nat.mul_one, rwV_set _ _ (by omega)]
        refine G.le (E' := ⟨w, w.heap.size, [], 109, []⟩) rfl (s' := { F := [(0, .val (.slice A n c)), (3, .own 0 0), (5, .val (.int .i64 k)), (6, .val (.int .i64 i)), (8, .val (.int .i64 0))], H := [.own 51 0 1 B n bc (tabV gs n n)] ++ tabF 4 gs (mat1 l k i 0) n n }) (fun a W rep => ?_) ?_
        ·have r2 := Rep.back hW0 (tabX_shut _ _ _ _ _ _) rep (Over.refl _) rfl rfl
         exact Rep.fam' (b := [.own 51 0 1 B n bc (tabV gs n n)]) (r := .own 4 0 1 (some ⟨gs i, 0, none⟩) n n (rwV n fun j => if j = k then true else mat0 l k (i + 1) i j) :: tabX 4 gs (mat0 l k (i + 1)) n n i) r2 (by (simp only [setn, List.nil_append, List.cons_append, leF, leH_nil, leH_cons, leF_nil, lk, scp, scpL, scpO, resF, resH, resO, resV, resVL, nth, Nat.reduceBEq, Nat.reduceLT, decide_true, decide_false, List.length, List.length_cons, List.length_nil, Nat.reduceAdd, Bool.and_self, Bool.and_true, and_true, true_and, numF] <;> try simp)) rfl (fun e he => by
          rcases List.mem_cons.1 he with rfl | h
          ·rfl
          ·exact tabX_shut _ _ _ _ _ _ e h) (by
          rw [rwV_congr (g := mat1 l k i 0 i) fun b _ => by rw [mat1_start hD]; simp]
          exact tabF_in 4 gs (M' := mat1 l k i 0) (by omega) fun a _ ha b _ => by rw [mat1_start hD, if_neg fun q => ha q.1])
        clear hW0 hov hAE W0
        refine loop_go (α := Nat) (fun m => m ≤ i) (fun _ => ⟨w, w.heap.size, [], 109, []⟩)
         (fun m => { F := [(0, .val (.slice A n c)), (3, .own 0 0), (5, .val (.int .i64 k)), (6, .val (.int .i64 i)), (8, .val (.int .i64 m))], H := [.own 51 0 1 B n bc (tabV gs n n)] ++ tabF 4 gs (mat1 l k i m) n n }) (fun m => i - m) (fun _ => rfl) ?start3 ?round3
        case start3 =>
         intro a W rep
         exact ⟨0, Nat.zero_le _, rep.few 1 (by (simp only [setn, List.nil_append, List.cons_append, leF, leH_nil, leH_cons, leF_nil, lk, scp, scpL, scpO, resF, resH, resO, resV, resVL, nth, Nat.reduceBEq, Nat.reduceLT, decide_true, decide_false, List.length, List.length_cons, List.length_nil, Nat.reduceAdd, Bool.and_self, Bool.and_true, and_true, true_and, numF] <;> try simp))⟩
        case round3 =>
         intro m hm I3 again3
         have hm : m ≤ i := hm
         by_cases hmi : m < i
         ·have hmn : m < n := by omega
          refine G.le (E' := ⟨w, w.heap.size, [], 109, []⟩) rfl (s' := { F := [(0, .val (.slice A n c)), (3, .own 0 0), (5, .val (.int .i64 k)), (6, .val (.int .i64 i)), (8, .val (.int .i64 m))], H := [.own 51 0 1 B n bc (tabV gs n n), .own 4 0 1 (some ⟨gs m, 0, none⟩) n n (rwV n (mat1 l k i m m))] ++ tabX 4 gs (mat1 l k i m) n n m }) (fun a W rep => Rep.fam' (b := [.own 51 0 1 B n bc (tabV gs n n)]) rep (by (simp only [setn, List.nil_append, List.cons_append, leF, leH_nil, leH_cons, leF_nil, lk, scp, scpL, scpO, resF, resH, resO, resV, resVL, nth, Nat.reduceBEq, Nat.reduceLT, decide_true, decide_false, List.length, List.length_cons, List.length_nil, Nat.reduceAdd, Bool.and_self, Bool.and_true, and_true, true_and, numF] <;> try simp)) rfl (tabF_shut _ _ _ _ _) (tabF_out 4 gs (mat1 l k i m) n hmn)) ?_
          refine G.cut rfl (by (simp only [setn, List.nil_append, List.cons_append, leF, leH_nil, leH_cons, leF_nil, lk, scp, scpL, scpO, resF, resH, resO, resV, resVL, nth, Nat.reduceBEq, Nat.reduceLT, decide_true, decide_false, List.length, List.length_cons, List.length_nil, Nat.reduceAdd, Bool.and_self, Bool.and_true, and_true, true_and, numF] <;> try simp)) fun W0 hW0 hov => ?_
          have ht : (tabV gs n n)[(m : Int).toNat * 1]? = some (.slice (some ⟨gs m, 0, none⟩) n n) := by rw [Int.toNat_natCast, Nat.mul_one]; exact tabV_get hmn
          have next : ∀ b : Bool, b = (mat1 l k i m m k || mat1 l k i m m i) → ∀ (a : Act) (W : World), Rep ⟨W0, W0.heap.size, fps [.own 51 0 1 B n bc (tabV gs n n), .own 4 0 1 (some ⟨gs m, 0, none⟩) n n (rwV n (mat1 l k i m m))], 109, []⟩ { F := [(0, .val (.slice A n c)), (3, .own 0 0), (5, .val (.int .i64 k)), (6, .val (.int .i64 i)), (8, .val (.int .i64 ((m + 1 : Nat) : Int)))], H := [.own 51 0 1 B n bc (tabV gs n n), .own 4 0 1 (some ⟨gs m, 0, none⟩) n n (rwV n fun j => if j = k then b else mat1 l k i m m j)] } a W → I3 a W := by
           intro b hb a W rep
           refine again3 (m + 1) hmi (by omega) a W ?_
           have r2 := Rep.back hW0 (tabX_shut _ _ _ _ _ _) rep (Over.refl _) rfl rfl
           exact Rep.fam' (b := [.own 51 0 1 B n bc (tabV gs n n)]) (r := .own 4 0 1 (some ⟨gs m, 0, none⟩) n n (rwV n fun j => if j = k then b else mat1 l k i m m j) :: tabX 4 gs (mat1 l k i m) n n m) r2 (by (simp only [setn, List.nil_append, List.cons_append, leF, leH_nil, leH_cons, leF_nil, lk, scp, scpL, scpO, resF, resH, resO, resV, resVL, nth, Nat.reduceBEq, Nat.reduceLT, decide_true, decide_false, List.length, List.length_cons, List.length_nil, Nat.reduceAdd, Bool.and_self, Bool.and_true, and_true, true_and, numF] <;> try simp)) rfl (fun e he => by
            rcases List.mem_cons.1 he with rfl | h
            ·rfl
            ·exact tabX_shut _ _ _ _ _ _ e h) (by
            rw [rwV_congr (g := mat1 l k i (m + 1) m) fun j _ => by rw [mat1_step hD hmi, hb]; simp]
            exact tabF_in 4 gs (M' := mat1 l k i (m + 1)) hmn fun a _ ha j _ => by rw [mat1_step hD hmi, if_neg fun q => ha q.1])
          have add1 : ArOk .add .i64 (m : Int) 1 ((m + 1 : Nat) : Int) := ArOk.to (by omega) (by omega) (by omega)
          have hr : ∀ j, j < n → (rwV n (mat1 l k i m m))[((j : Nat) : Int).toNat * 1]? = some (.bool (mat1 l k i m m j)) := fun j hj => by rw [Int.toNat_natCast, Nat.mul_one]; exact rwV_get _ hj
          have hset : ∀ b, setn (rwV n (mat1 l k i m m)) ((k : Int).toNat * 1) (.bool b) = rwV n fun j => if j = k then b else mat1 l k i m m j := fun b => by rw [Int.toNat_natCast, Nat.mul_one]; exact rwV_set _ b (by omega)
          have hlen : (k : Int).toNat * 1 + 1 ≤ (rwV n (mat1 l k i m m)).length := by rw [rwV_len, Int.toNat_natCast]; omega
          have hbm : (0 ≤ (m : Int) ∧ (m : Int) < (n : Int)) := ⟨by omega, by omega⟩
          have hbk : (0 ≤ (k : Int) ∧ (k : Int) < (n : Int)) := ⟨by omega, by omega⟩
          have hbi : (0 ≤ (i : Int) ∧ (i : Int) < (n : Int)) := ⟨by omega, by omega⟩
          (refine Y_go 23 ?_; dsimp only [zq9y, t26n5, T26n5, zq9r, zq9q, Y_k, zq4u, zq8o, zq6n, Nat.reduceBEq, zq6l, zq6k, YK, zq8t, zq50, zq04, zq92, zq9b, zq0i, zq9e, zq9i, normF, zq6m, zq87, zq86, zq8f, zq9s, zq6h, zq8x, YC, zq9p, t26n4, T26n4, zq9t, zq58, zq06, zq0y, nth, zq09, zq08, zq0v, zq5c, zq1q, zq1n, zq1g, List.nil_append, zq1b, zq18, Y_0, zq9u, popTo, zq6i, YP, zqa1, t26n9, T26n9, zq4w, zq8p, zq6q, zq0e, zq8a, zqa2])
          refine ⟨fun _ => ?_, fun q => absurd (of_decide_eq_false q) (by omega)⟩
          refine ⟨hbm, _, _, _, ht, hbm, _, _, _, ht, ?_⟩
          refine G.fold 94 1 rfl rfl (G.fold 89 1 rfl rfl ?_)
          cases hv : mat1 l k i m m k with
          | true =>
           have hk' := hr k hkn
           rw [hv] at hk'
           (refine Y_go 600 ?_; dsimp only [Y_k, zq4u, zq8o, zq6n, Nat.reduceBEq, zq6l, zq6k, YK, zq8t, zq58, zq06, zq0y, nth, zq09, zq08, zq0v, zq5c, zq1q, zq1n, zq1d, List.nil_append, zq1b, zq18, Y_gk, zq6e, YS, zq6a, zq4v, zq8p, zq6o, zq0b, zq5d, zq7v, zq7h, zq0a, zq1y, zq1w, denL, den, zq1v, splice, setn, zq8s, zq9i, normF, zq6m, zq89, zq86, zq87, zq8f, zqa1, zq9y, t26n3, T26n3, zq9q, zq4w, zq6q, zq04, zq92, zq9b, zq0e, zqa2, YR, zq6c, zq1g, zq0w, zq1p, zq0c, zq7u, zq7g])
           refine ⟨hbk, true, hk', fun _ => ⟨hbk, hlen, _, add1, lend_rule fun a W rep => next true (by rw [hv]; rfl) a W ?_⟩, fun q => absurd q (by decide)⟩
           rw [hset] at rep
           exact rep.le (by (simp only [setn, List.nil_append, List.cons_append, leF, leH_nil, leH_cons, leF_nil, lk, scp, scpL, scpO, resF, resH, resO, resV, resVL, nth, Nat.reduceBEq, Nat.reduceLT, decide_true, decide_false, List.length, List.length_cons, List.length_nil, Nat.reduceAdd, Bool.and_self, Bool.and_true, and_true, true_and, numF] <;> try simp)) (by (simp only [setn, List.nil_append, List.cons_append, leF, leH_nil, leH_cons, leF_nil, lk, scp, scpL, scpO, resF, resH, resO, resV, resVL, nth, Nat.reduceBEq, Nat.reduceLT, decide_true, decide_false, List.length, List.length_cons, List.length_nil, Nat.reduceAdd, Bool.and_self, Bool.and_true, and_true, true_and, numF] <;> try simp))
          | false =>
           have hk' := hr k hkn
           rw [hv] at hk'
           (refine Y_go 8 ?_; dsimp only [Y_k, zq4u, zq8o, zq6n, Nat.reduceBEq, zq6l, zq6k, YK, zq8t, zq58, zq06, zq0y, nth, zq09, zq08, zq0v, zq5c, zq1q, zq1n, zq1d, List.nil_append, zq1b, zq18, Y_gk, zq6e, YS, zq6a, Y_0, YR, zq6c, zq1g])
           refine ⟨hbk, false, hk', fun q => absurd q (by decide), fun _ => ⟨hbm, _, _, _, ht, G.fold 102 1 rfl rfl ?_⟩⟩
           (refine Y_go 600 ?_; dsimp only [Y_gk, zq6n, Nat.reduceBEq, zq6l, zq6k, zq6c, YR, zq4u, zq8o, YK, zq8t, zq58, zq06, zq0y, nth, zq09, zq08, zq0v, zq5c, zq1q, zq1n, zq1d, List.nil_append, zq1b, zq18, Y_k, zq4v, zq8p, zq6o, zq0c, zq5d, zq7u, zq7g, zq0a, zq1y, zq1w, denL, den, zq1v, splice, setn, zq8s, zq9i, normF, zq6m, zq89, zq86, zq87, zq8f, zqa1, zq9y, t26n3, T26n3, zq9q, zq4w, zq6q, zq04, zq92, zq9b, zq0e, zqa2])
           refine ⟨hbi, mat1 l k i m m i, hr i (by omega), hbk, hlen, _, add1, lend_rule fun a W rep => next (mat1 l k i m m i) (by rw [hv]; rfl) a W ?_⟩
           rw [hset] at rep
           exact rep.le (by (simp only [setn, List.nil_append, List.cons_append, leF, leH_nil, leH_cons, leF_nil, lk, scp, scpL, scpO, resF, resH, resO, resV, resVL, nth, Nat.reduceBEq, Nat.reduceLT, decide_true, decide_false, List.length, List.length_cons, List.length_nil, Nat.reduceAdd, Bool.and_self, Bool.and_true, and_true, true_and, numF] <;> try simp)) (by (simp only [setn, List.nil_append, List.cons_append, leF, leH_nil, leH_cons, leF_nil, lk, scp, scpL, scpO, resF, resH, resO, resV, resVL, nth, Nat.reduceBEq, Nat.reduceLT, decide_true, decide_false, List.length, List.length_cons, List.length_nil, Nat.reduceAdd, Bool.and_self, Bool.and_true, and_true, true_and, numF] <;> try simp))
         ·have hme : m = i := by omega
          subst hme
          (refine Y_go 600 ?_; dsimp only [List.cons_append, List.nil_append, zq9y, t26n5, T26n5, zq9r, zq9q, Y_k, zq4u, zq8o, zq6n, Nat.reduceBEq, zq6l, zq6k, YK, zq8t, zq50, zq04, zq92, zq9b, zq0i, zq9e, zq9i, normF, zq6m, zq87, zq86, zq8f, zq9s, zq6h, zq8x, YC, zq9p, t26n4, T26n4, zq9t, zq58, zq06, zq0y, nth, zq09, zq08, zq0v, zq5c, zq1q, zq1n, zq1g, zq1b, zq18, zq0w, zq1p, zq1d, Y_gk, zq6e, YS, zq6a, zq4v, zq8p, zq6o, zq0b, zq5d, zq7v, zq7h, zq0a, YR, zq6c, zq0c, zq7u, zq7g, zq9u, popTo, zq6i, YP, zqa1, t26n9, T26n9, zq4w, zq6q, zq0e, zq8a, zqa2])
          refine ⟨fun q => absurd (of_decide_eq_true q) (by omega), fun _ => ?_⟩
          refine ⟨(m : Int) - 1, ArOk.toSub rfl (by omega) (by omega), lend_rule fun a W rep => again2 m (by omega) (by omega) a W ?_⟩
          rw [tabF_congr (M' := mat1 l k m m) fun a ha => ⟨rfl, fun b _ => (mat1_end hD a b).symm⟩]
          exact rep.few 1 (by (simp only [setn, List.nil_append, List.cons_append, leF, leH_nil, leH_cons, leF_nil, lk, scp, scpL, scpO, resF, resH, resO, resV, resVL, nth, Nat.reduceBEq, Nat.reduceLT, decide_true, decide_false, List.length, List.length_cons, List.length_nil, Nat.reduceAdd, Bool.and_self, Bool.and_true, and_true, true_and, numF] <;> try simp))
       have skip : ¬ D l i k → ∀ (a : Act) (W : World), Rep ⟨W0, W0.heap.size, fps [.own 51 0 1 B n bc (tabV gs n n), .own 4 0 1 (some ⟨gs i, 0, none⟩) n n (rwV n (mat0 l k (i + 1) i))], 109, []⟩ { F := [(0, .val (.slice A n c)), (3, .own 0 0), (5, .val (.int .i64 k)), (6, .val (.int .i64 ((i : Int) - 1)))], H := [.own 51 0 1 B n bc (tabV gs n n), .own 4 0 1 (some ⟨gs i, 0, none⟩) n n (rwV n (mat0 l k (i + 1) i))] } a W → I2 a W := by
        intro hD a W rep
        refine again2 i (by omega) (by omega) a W ?_
        have r2 := Rep.back hW0 (tabX_shut _ _ _ _ _ _) rep (Over.refl _) rfl rfl
        exact Rep.fam' (b := [.own 51 0 1 B n bc (tabV gs n n)]) (r := .own 4 0 1 (some ⟨gs i, 0, none⟩) n n (rwV n (mat0 l k (i + 1) i)) :: tabX 4 gs (mat0 l k (i + 1)) n n i) r2 (by (simp only [setn, List.nil_append, List.cons_append, leF, leH_nil, leH_cons, leF_nil, lk, scp, scpL, scpO, resF, resH, resO, resV, resVL, nth, Nat.reduceBEq, Nat.reduceLT, decide_true, decide_false, List.length, List.length_cons, List.length_nil, Nat.reduceAdd, Bool.and_self, Bool.and_true, and_true, true_and, numF] <;> try simp)) rfl (fun e he => by
         rcases List.mem_cons.1 he with rfl | h
         ·rfl
         ·exact tabX_shut _ _ _ _ _ _ e h) (by
         rw [rwV_congr fun b _ => mat0_skip hD i b]
         exact tabF_in 4 gs (M' := mat0 l k i) (by omega) fun a _ _ b _ => mat0_skip hD a b)
       have hDi := D_iff hcore hik
       have sA : A.isSome = true := hA.isSome (j := i * 3) (by rw [cellsS_len]; omega)
       have bi : 0 ≤ (i : Int) ∧ (i : Int) < (n : Int) ∧ A.isSome = true := ⟨by omega, by omega, sA⟩
       have bk : 0 ≤ (k : Int) ∧ (k : Int) < (n : Int) ∧ A.isSome = true := ⟨by omega, by omega, sA⟩
       have ci := fun m v hk => syCell (l := l) hAE (show i < l.length by omega) m v hk
       have ck := fun m v hk => syCell (l := l) hAE (show k < l.length by omega) m v hk
       have ht : (tabV gs n n)[(i : Int).toNat * 1]? = some (.slice (some ⟨gs i, 0, none⟩) n n) := by rw [Int.toNat_natCast, Nat.mul_one]; exact tabV_get (by omega)
       have sub1 : ArOk .sub .i64 (i : Int) 1 ((i : Int) - 1) := ArOk.toSub rfl (by omega) (by omega)
       (refine Y_go 72 ?_; dsimp only [zq9y, t26n11, T26n11, zq9r, zq9q, Y_k, zq4u, zq8o, zq6n, Nat.reduceBEq, zq6l, zq6k, YK, zq8t, zq50, zq8p, zq6q, zq04, zq92, zq9b, zq0i, zq9h, zq9i, normF, zq6m, zq86, zq87, zq8f, zq9s, zq6h, zq8x, YC, zq9p, t26n10, T26n10, zq9t, zq58, zq06, zq0w, zq5a, zq16, zq5c, zq1p, zq1c, List.nil_append, zq1b, zq18, zq9c, Y_gk, zq6d, YR, zq69, zq4v, zq6p, zq0b, zq89, t26n8, T26n8, Nat.add_zero, zq9d, zq53, zq0o, zq9u, popTo, zq6i, YP, t26n9, T26n9, zq4w, zq0e, zqa2, t26n7, T26n7, zq0y, nth, zq09, zq08, zq0v, zq1q, zq1n, zq1g, Y_0, YS, zq6b, zq0c, zq8a, zq6g, zq0n, zq6f, zqa1, t26n12, T26n12])
       refine ⟨fun _ => ?_, fun q => absurd (of_decide_eq_false q) (by omega)⟩
       refine ⟨bi, sA, _, ci 1 _ rfl, fun q1 => ?_, fun q1 => ?_⟩
       ·refine ⟨bk, sA, _, ck 1 _ rfl, fun q2 => ?_, fun q2 => ?_⟩
        ·refine ⟨bi, sA, _, ci 2 _ rfl, bk, sA, _, ck 2 _ rfl, bi, sA, _, ci 0 _ rfl, bk, sA, _, ck 0 _ rfl, fun q3 => ⟨fun q4 => ⟨_, sub1, lend_rule fun a W rep => skip ?_ a W (rep.few 2 (by (simp only [setn, List.nil_append, List.cons_append, leF, leH_nil, leH_cons, leF_nil, lk, scp, scpL, scpO, resF, resH, resO, resV, resVL, nth, Nat.reduceBEq, Nat.reduceLT, decide_true, decide_false, List.length, List.length_cons, List.length_nil, Nat.reduceAdd, Bool.and_self, Bool.and_true, and_true, true_and, numF] <;> try simp)))⟩, fun q4 => ⟨⟨by omega, by omega⟩, _, _, _, ht, G.le rfl (fun a W rep => rep.few 2 (by (simp only [setn, List.nil_append, List.cons_append, leF, leH_nil, leH_cons, leF_nil, lk, scp, scpL, scpO, resF, resH, resO, resV, resVL, nth, Nat.reduceBEq, Nat.reduceLT, decide_true, decide_false, List.length, List.length_cons, List.length_nil, Nat.reduceAdd, Bool.and_self, Bool.and_true, and_true, true_and, numF] <;> try simp))) (main ?_)⟩⟩, fun q3 => ⟨⟨by omega, by omega⟩, _, _, _, ht, G.le rfl (fun a W rep => rep.few 2 (by (simp only [setn, List.nil_append, List.cons_append, leF, leH_nil, leH_cons, leF_nil, lk, scp, scpL, scpO, resF, resH, resO, resV, resVL, nth, Nat.reduceBEq, Nat.reduceLT, decide_true, decide_false, List.length, List.length_cons, List.length_nil, Nat.reduceAdd, Bool.and_self, Bool.and_true, and_true, true_and, numF] <;> try simp))) (main ?_)⟩⟩
         all_goals
          rw [hDi]
          first | (simp at q1 q2 q3 q4; omega) | (simp at q1 q2 q3; omega)
        ·refine ⟨bi, sA, _, ci 0 _ rfl, bk, sA, _, ck 0 _ rfl, fun q3 => ⟨_, sub1, lend_rule fun a W rep => skip ?_ a W (rep.few 2 (by (simp only [setn, List.nil_append, List.cons_append, leF, leH_nil, leH_cons, leF_nil, lk, scp, scpL, scpO, resF, resH, resO, resV, resVL, nth, Nat.reduceBEq, Nat.reduceLT, decide_true, decide_false, List.length, List.length_cons, List.length_nil, Nat.reduceAdd, Bool.and_self, Bool.and_true, and_true, true_and, numF] <;> try simp)))⟩, fun q3 => ⟨⟨by omega, by omega⟩, _, _, _, ht, G.le rfl (fun a W rep => rep.few 2 (by (simp only [setn, List.nil_append, List.cons_append, leF, leH_nil, leH_cons, leF_nil, lk, scp, scpL, scpO, resF, resH, resO, resV, resVL, nth, Nat.reduceBEq, Nat.reduceLT, decide_true, decide_false, List.length, List.length_cons, List.length_nil, Nat.reduceAdd, Bool.and_self, Bool.and_true, and_true, true_and, numF] <;> try simp))) (main ?_)⟩⟩
         all_goals
          rw [hDi]
          simp at q1 q2 q3
          omega
       ·refine ⟨bi, sA, _, ci 0 _ rfl, bk, sA, _, ck 0 _ rfl, fun q3 => ⟨_, sub1, lend_rule fun a W rep => skip ?_ a W (rep.few 2 (by (simp only [setn, List.nil_append, List.cons_append, leF, leH_nil, leH_cons, leF_nil, lk, scp, scpL, scpO, resF, resH, resO, resV, resVL, nth, Nat.reduceBEq, Nat.reduceLT, decide_true, decide_false, List.length, List.length_cons, List.length_nil, Nat.reduceAdd, Bool.and_self, Bool.and_true, and_true, true_and, numF] <;> try simp)))⟩, fun q3 => ⟨⟨by omega, by omega⟩, _, _, _, ht, G.le rfl (fun a W rep => rep.few 2 (by (simp only [setn, List.nil_append, List.cons_append, leF, leH_nil, leH_cons, leF_nil, lk, scp, scpL, scpO, resF, resH, resO, resV, resVL, nth, Nat.reduceBEq, Nat.reduceLT, decide_true, decide_false, List.length, List.length_cons, List.length_nil, Nat.reduceAdd, Bool.and_self, Bool.and_true, and_true, true_and, numF] <;> try simp))) (main ?_)⟩⟩
        all_goals
         rw [hDi]
         simp at q1 q3
         omega
    ·(refine Y_go 600 ?_; dsimp only [List.cons_append, List.nil_append, zq9y, t26n14, T26n14, zq9r, zq9q, Y_k, zq4u, zq8o, zq6n, Nat.reduceBEq, zq6l, zq6k, YK, zq8t, zq55, zq0r, zq50, zq04, zq92, zq9b, zq0i, zq9e, zq9i, normF, zq6m, zq86, zq87, zq8f, zq9s, zq6h, zq8x, YC, zq9p, t26n13, T26n13, zq9t, zq4w, zq8p, zq6q, zq0e, zq89, zq9v, zq9u, popTo, zq6i, YP, t26n15, T26n15, zq8a, zq9x])
     refine ⟨fun q => absurd (of_decide_eq_true q) (by omega), fun _ => ?_⟩
     have hke : k = n := by omega
     subst hke
     refine ret_rule (vs := [.slice B k bc]) r26 rfl rfl fun W hW => hR _ _ ⟨gs, B, bc, rfl, ?_, hW.fresh'⟩
     have := HeapOk.tab (b := []) (T := 4) (U := 51) (gs := gs) (M := mat0 l k k) (r := k) (n := k) (ver := 0) (c := bc) (A := B) hW
     refine ⟨this.1, fun a ha => ?_⟩
     rw [rwV_congr fun b hb => (mat0_all l hb).symm]
     exact this.2 a ha
end Go.Proofs.Ytnedgfkgmdoahaa
