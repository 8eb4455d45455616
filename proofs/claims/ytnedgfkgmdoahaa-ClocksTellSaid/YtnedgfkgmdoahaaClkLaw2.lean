/- clocks.Clocks. -/
import Derived.Test.YtnedgfkgmdoahaaClkLaw1
import Derived.Test.YtnedgfkgmdoahaaClkCode
set_option linter.unusedSimpArgs false
set_option linter.unusedVariables false
set_option linter.unnecessarySimpa false
namespace Go.Proofs.Ytnedgfkgmdoahaa
open Go Go.Sx Go.Clk
set_option maxRecDepth 100000
def cellsK (f : Nat → Ck) : List Value := ckV (f 0) ++ ckV (f 1) ++ ckV (f 2) ++ ckV (f 3)
theorem four {p : Int} (h0 : 0 ≤ p) (h1 : p < 4) : p = 0 ∨ p = 1 ∨ p = 2 ∨ p = 3 := by omega
theorem get1 (f : Nat → Ck) {p : Int} (h0 : 0 ≤ p) (h1 : p < 4) : (cellsK f)[0 + p.toNat * 4 + p.toNat * 1]? = some (.int .i64 (f p.toNat p.toNat)) := by
 rcases four h0 h1 with rfl | rfl | rfl | rfl <;> rfl
theorem get4 (f : Nat → Ck) {p : Int} (h0 : 0 ≤ p) (h1 : p < 4) (k : Nat) (hk : k < 4) : (cellsK f)[0 + p.toNat * 4 + k]? = some (.int .i64 (f p.toNat k)) := by
 have hk : k = 0 ∨ k = 1 ∨ k = 2 ∨ k = 3 := by omega
 rcases four h0 h1 with rfl | rfl | rfl | rfl <;> rcases hk with rfl | rfl | rfl | rfl <;> rfl
theorem spl1 (f : Nat → Ck) {p : Int} (h0 : 0 ≤ p) (h1 : p < 4) (v : Int) : setn (cellsK f) (0 + p.toNat * 4 + p.toNat * 1) (.int .i64 v) = cellsK (fun q => if q = p.toNat then (fun j => if j = p.toNat then v else f q j) else f q) := by
 rcases four h0 h1 with rfl | rfl | rfl | rfl <;> rfl
theorem spl4 (f : Nat → Ck) {p : Int} (h0 : 0 ≤ p) (h1 : p < 4) (c : Ck) : setn (setn (setn (setn (cellsK f) (0 + p.toNat * 4) (.int .i64 (c 0))) (0 + p.toNat * 4 + 1) (.int .i64 (c 1))) (0 + p.toNat * 4 + 1 + 1) (.int .i64 (c 2))) (0 + p.toNat * 4 + 1 + 1 + 1) (.int .i64 (c 3)) = cellsK (fun q => if q = p.toNat then c else f q) := by
 rcases four h0 h1 with rfl | rfl | rfl | rfl <;> rfl
def lookI : List (Int × Ck) → Int → Option Ck
 | [], _ => none
 | (k, c) :: l, a => if a = k then some c else lookI l a
def putI : List (Int × Ck) → Int → Ck → List (Int × Ck)
 | [], a, c => [(a, c)]
 | (k, d) :: l, a, c => if a = k then (a, c) :: l else (k, d) :: putI l a c
theorem look_put : ∀ (l : List (Int × Ck)) (a : Int) (c : Ck) (b : Int), lookI (putI l a c) b = if b = a then some c else lookI l b
 | [], a, c, b => by simp [putI, lookI]
 | (k, d) :: l, a, c, b => by
  simp only [putI]
  split
  ·rename_i h; subst h
   simp only [lookI]
   split <;> rfl
  ·rename_i h
   simp only [lookI, look_put l a c b]
   split
   ·rename_i h2; subst h2; rw [if_neg (fun q => h q.symm)]
   ·rfl
def mlV (ml : List (Int × Ck)) : List (Value × Value) := ml.map fun p => (Value.int .i64 p.1, Value.agg (ckV p.2).toArray)
theorem mlV_key (ml : List (Int × Ck)) : ∀ p ∈ mlV ml, keyIs (.int .i64) p.1 = true := by
 intro p hp
 obtain ⟨q, _, rfl⟩ := List.mem_map.1 hp
 rfl
theorem mlV_get : ∀ (ml : List (Int × Ck)) (a : Int), mget (mlV ml) (.int .i64 a) = (lookI ml a).map fun c => Value.agg (ckV c).toArray
 | [], a => rfl
 | (k, c) :: l, a => by
  show (match (a == k) with | true => some (Value.agg (ckV c).toArray) | false => mget (mlV l) (.int .i64 a)) = _
  simp only [lookI]
  by_cases h : a = k
  ·subst h; simp
  ·have : (a == k) = false := by simpa using h
   rw [this, if_neg h]; exact mlV_get l a
theorem mlV_put : ∀ (ml : List (Int × Ck)) (a : Int) (c : Ck), mput (mlV ml) (.int .i64 a) (.agg (ckV c).toArray) = mlV (putI ml a c)
 | [], a, c => rfl
 | (k, d) :: l, a, c => by
  show (match (a == k) with | true => (Value.int .i64 a, Value.agg (ckV c).toArray) :: mlV l | false => (Value.int .i64 k, Value.agg (ckV d).toArray) :: mput (mlV l) (.int .i64 a) (.agg (ckV c).toArray)) = _
  simp only [putI]
  by_cases h : a = k
  ·subst h; simp [mlV]
  ·have : (a == k) = false := by simpa using h
   rw [this, if_neg h, mlV_put l a c]; simp [mlV]
def zck : Ck := fun _ => 0
structure CI where
 i : Nat
 ml : List (Int × Ck)
 A : Option Addr
 c : Nat
def clks (l : List Sy) (n : Nat) : List Ck := (List.range n).map (clk l)
theorem clks_succ (l : List Sy) (n : Nat) : clks l (n + 1) = clks l n ++ [clk l n] := by simp [clks, List.range_succ]
theorem clks_len (l : List Sy) (n : Nat) : (clks l n).length = n := by simp [clks]
theorem clocks19 (A : Option Addr) (c : Nat) (l : List Sy) (w : World) (hA : RowAt w A (cellsS l)) :
  CallsV Try.prog 19 [.slice A l.length c] w fun v w' => Fresh w w' ∧
   ((okLs l ∧ ∃ s, v = .tuple #[s, .int .i64 0] ∧ World.ownsB w' w.heap.size 56 4 s l.length (cellsC (clks l l.length))) ∨ (¬ okLs l ∧ v = .tuple #[.slice none 0 0, .int .i64 260])) := by
 refine calls_go (keep := K19) (nt := 70) (svs := [.val (.slice A l.length c)]) Try.func19 x19 n19 (by simp) (by simp [IsL, Is]) fun R hR => ?_
 (refine Y_go 600 ?_; dsimp only [X19, numF, Nat.reduceAdd, zq9r, zq9q, Y_k, zq4u, zq8p, zq6u, YK, zq8t, zq6q, zq9i, normF, zq6n, Nat.reduceBEq, zq6l, zq6k, zq6m, zq86, zq87, zq9y, t19n18, T19n18, zq8o, zq9j])
 refine call_val (vs := [.slice A l.length c]) rfl (fun W hW => may50 A c l W (hA.keep hW.fresh')) fun v hv => ⟨.val (.int .i64 (errC l)), by rw [hv]; simp [Is], ?_⟩
 (refine Y_go 600 ?_; dsimp only [zq8t, Y_k, zq4u, zq8o, zq6n, Nat.reduceBEq, zq6k, YK, zq9i, normF, zq6l, zq6m, zq86, zq87, zq9y, t19n1, T19n1, zq9r, zq9q, zq50, zq8p, zq6q, zq04, zq92, zq9b, zq0i, zq9d, zq9s, zq6h, zq8x, YC, t19n0, T19n0, zq6u, zq89, zq9x, zq9p, t19n17, T19n17, zq5e, List.length_nil, List.map, List.nil_append, zq8a, zq8c, t19n16, T19n16, zq60, List.length_cons, Nat.reduceAdd, List.cons_append, zq8h, t19n15, T19n15, t19n14, T19n14, zq55, zq0r, zq9t, zq9v])
 refine ⟨fun h => ?_, fun h => ?_⟩
 ·have ho : ¬ okLs l := by intro q; simp [errC, q] at h
  refine ret_rule (vs := [.slice none 0 0, .int .i64 (errC l)]) r19 rfl rfl fun W hW => hR _ _ ⟨hW.fresh', .inr ⟨ho, by simp [tupOf, errC, ho]⟩⟩
 have ho : okLs l := by
  by_cases q : okLs l
  ·exact q
  ·simp [errC, q] at h
 intro g5 g6
 refine torow_rule 0 rfl rfl ?_
 dsimp only [setn]
 refine loop_go (α := CI) (fun x => x.i ≤ l.length ∧ ∀ a, (lookI x.ml a).getD zck = (st l x.i).objs a) (fun _ => ⟨w, w.heap.size, [], 70, []⟩)
  (fun x => { F := [(0, .val (.slice A l.length c)), (5, .ptr 0 0), (6, .mp 1), (7, .own 2 0), (17, .val (.slice A l.length c)), (18, .val (.int .i64 l.length)), (19, .val (.int .i64 x.i))], H := [.row g5 112 (cellsK (st l x.i).cores), .map g6 (mlV x.ml), .own 56 0 4 x.A x.i x.c (cellsC (clks l x.i))] }) (fun x => l.length - x.i) (fun _ => rfl) ?start ?round
 case start =>
  intro a' W rep
  refine ⟨⟨0, [], none, 0⟩, ⟨Nat.zero_le _, fun a => rfl⟩, (rep.adopt 7 56 4 rfl).le ?_ ?_⟩ <;> (simp only [setn, List.nil_append, List.cons_append, leF, leH_nil, leH_cons, leF_nil, lk, scp, scpL, scpO, resF, resH, resO, resV, resVL, nth, Nat.reduceBEq, Nat.reduceLT, decide_true, decide_false, List.length, List.length_cons, List.length_nil, Nat.reduceAdd, Bool.and_self, Bool.and_true, and_true, true_and, numF] <;> try simp) <;> simp [st, cellsK, ckV, clks, cellsC, mlV]
 case round =>
  rintro ⟨i, ml, A', c'⟩ ⟨hi, hml⟩ I hI
  have hi : i ≤ l.length := hi
  have hml : ∀ a, (lookI ml a).getD zck = (st l i).objs a := hml
  (refine Y_go 600 ?_; dsimp only [zq9y, t19n12, T19n12, zq9r, zq9q, Y_k, zq50, zq8o, zq6n, Nat.reduceBEq, zq6l, zq6k, zq04, zq92, zq9b, zq0i, zq9e, YK, zq8t, zq9i, normF, zq6m, zq86, zq87, zq8f, zq8h, zq8c, t19n11, T19n11, zq9s, zq6h, zq8x, YC, zq9p, t19n10, T19n10, zq9t, zq58, zq06, zq0w, zq5c, zq1p, zq1c, List.nil_append, List.cons_append, zq1b, zq17, zq5e, List.length_cons, List.length_nil, Nat.reduceAdd, List.map, zq6q, zq5d, zq7t, zq8l, zq73, zq8m, zq8k, zq0a, zq1x, nth, zq1t, dropL, takeL, zq1r, splice, setn, zq8s, zq89, t19n9, T19n9, zq5a, zq14, Nat.add_zero, zq1o, zq1k, zq19, zq18, zq59, zq10, zq4u, t19n8, T19n8, zq5i, zq29, zq1l, zq4w, zq8p, zq0e, zq7u, zq1u, denL, den, zq1s, t19n7, T19n7, t19n5, T19n5, zq9c, t19n2, T19n2, zq61, zq4h, zq00, zq4g, zq4f, zq9j, t19n4, T19n4, zq8a, t19n3, T19n3, zqa1, t19n6, T19n6, zq5h, repL, zq23, Nat.reduceMul, zq20, zq24, zq26, zq5l, zq2w, zq09, zq08, zq2s, zq2r, zq2n, zq2j, zq2k, zq2l, zq2h, zqa2, zq9u, popTo, zq6i, YP, t19n13, T19n13, zq9x])
  refine ⟨fun h => ?_, fun h => ?_⟩
  ·have hlt : i < l.length := by have := of_decide_eq_true h; omega
   have cl : ∀ k v, (l[i]).cells[k]? = some v → CellAt ⟨w, w.heap.size, [], 70, []⟩ A (i * 3 + k) v := by
    intro k v hk
    have := (List.getElem?_eq_some_iff.1 hk).1
    exact hA.cell (by rw [cellsS_get l hlt this]; exact hk)
   obtain ⟨k0, k1, k2, k3, k4⟩ : okS l[i] := ho.2 _ (List.getElem_mem hlt)
   have hat : at' l i = l[i] := by unfold at'; rw [List.getD_eq_getElem?_getD, List.getElem?_eq_getElem hlt]; rfl
   have hn : i < 400 := by have := ho.1; omega
   have hcl := (inv l i).c3 (l[i]).core.toNat (l[i]).core.toNat
   have hct := cnt_len l (l[i]).core.toNat i
   refine ⟨⟨by omega, by omega, hA.isSome (j := i * 3) (by rw [cellsS_len]; omega)⟩, _, cl 0 _ rfl, _, cl 1 _ rfl, _, cl 2 _ rfl, ?_⟩
   intro g9
   refine ⟨⟨k0, k1⟩, ⟨k0, k1⟩, _, get1 _ k0 k1, _, .add64 (by omega) (by omega), ⟨k0, k1⟩, ⟨?_, ?_⟩⟩
   ·simp [cellsK, ckV]; omega
   rw [spl1 _ k0 k1]
   have einc : (fun q => if q = (l[i]).core.toNat then (fun j => if j = (l[i]).core.toNat then (st l i).cores (l[i]).core.toNat (l[i]).core.toNat + 1 else (st l i).cores q j) else (st l i).cores q) = fun q => if q = (l[i]).core.toNat then inc ((st l i).cores (l[i]).core.toNat) (l[i]).core.toNat else (st l i).cores q := by
    funext q
    split
    ·rename_i e; subst e; funext j; simp only [inc]; split
     ·rename_i e; subst e; rfl
     ·rfl
    ·rfl
   rw [einc]
   generalize hC : (fun q => if q = (l[i]).core.toNat then inc ((st l i).cores (l[i]).core.toNat) (l[i]).core.toNat else (st l i).cores q) = C1
   have hC1 : C1 (l[i]).core.toNat = inc ((st l i).cores (l[i]).core.toNat) (l[i]).core.toNat := by rw [← hC]; simp
   have hden : ∀ H, den H (.agg (ckS ((lookI ml (l[i]).addr).getD zck))) = some (((lookI ml (l[i]).addr).map fun c => Value.agg (ckV c).toArray).getD (.agg #[.int .i64 0, .int .i64 0, .int .i64 0, .int .i64 0])) := by
    intro H
    cases lookI ml (l[i]).addr <;> simp [den, denL, ckS, ckV, zck]
   have hst : st l (i + 1) = stp (st l i) (l[i]) := by show stp (st l i) (at' l i) = _; rw [hat]
   have hck : clk l i = newC (st l i) (l[i]) := by unfold clk; rw [hat]
   have hcore : (st l (i + 1)).cores (l[i]).core.toNat = clk l i := by rw [hst, hck]; simp [stp]
   have hget : ∀ k, k < 4 → (cellsK (st l (i + 1)).cores)[0 + (l[i]).core.toNat * 4 + k]? = some (.int .i64 (clk l i k)) := fun k hk => by rw [get4 _ k0 k1 k hk, hcore]
   have hout : cellsC (clks l i) ++ [.int .i64 (clk l i 0), .int .i64 (clk l i 1), .int .i64 (clk l i 2), .int .i64 (clk l i 3)] = cellsC (clks l (i + 1)) := by rw [clks_succ, cellsC_app]; rfl
   have hob : (l[i]).kind ≠ 3 → ∀ a, (lookI ml a).getD zck = (st l (i + 1)).objs a := fun hk a => by rw [hml, hst]; simp [stp, hk]
   have hlen : ∀ f, (cellsK f).length = 16 := fun f => rfl
   have hmem : i + 1 ≤ maxLen ∧ (i + 1) * 32 ≤ 140737488355328 := ⟨by simp only [maxLen]; omega, by omega⟩
   have hnot4 : (l[i]).kind ≠ 4 → C1 = (st l (i + 1)).cores := fun hk => by rw [hst, ← hC]; funext q; simp only [stp, newC, if_neg hk]
   refine ⟨fun hk => ⟨_, get4 C1 k0 k1 0 (by omega), _, get4 C1 k0 k1 1 (by omega), _, get4 C1 k0 k1 2 (by omega), _, get4 C1 k0 k1 3 (by omega), mlV_key ml, _, mlV_get ml _, .agg (ckS ((lookI ml (l[i]).addr).getD zck)), hden _, ?_⟩,
    fun hk => ⟨fun hk3 => ⟨mlV_key ml, _, mlV_get ml _, .agg (ckS ((lookI ml (l[i]).addr).getD zck)), hden _, _, get4 C1 k0 k1 0 (by omega), _, get4 C1 k0 k1 1 (by omega), _, get4 C1 k0 k1 2 (by omega), _, get4 C1 k0 k1 3 (by omega), ?_⟩, fun hk3 => ?_⟩⟩
   ·have hk4 : (l[i]).kind = 4 := by simpa using hk
    refine call_val (vs := [.agg (ckV (C1 (l[i]).core.toNat)).toArray, .agg (ckV ((lookI ml (l[i]).addr).getD zck)).toArray]) rfl (fun W hW => join48 _ _ W) fun v hv => ⟨.agg (ckS (join (C1 (l[i]).core.toNat) ((lookI ml (l[i]).addr).getD zck))), by rw [hv]; exact ck_is _ _, ?_⟩
    (refine Y_go 600 ?_; dsimp only [ckS, zq8t, Y_k, zq5i, zq8o, zq6n, Nat.reduceBEq, zq6l, zq6k, zq29, YK, zq5d, zq7t, List.length_cons, List.length_nil, Nat.reduceAdd, zq8l, zq73, zq8m, zq8k, zq0a, zq1x, nth, zq1u, denL, den, zq1s, splice, setn, zq8s, zq9i, normF, zq6m, zq86, zq89, zq87, zq8c, zq8f, zq8h, zqa1, zq9y, t19n6, T19n6, zq9q, zq4u, zq5c, zq1o, zq1l, zq1c, List.nil_append, List.cons_append, zq1b, zq17, zq5h, List.map, zq6q, repL, zq23, Nat.reduceMul, dropL, takeL, zq20, zq24, zq26, zq5l, zq2w, zq09, zq08, zq2s, zq9b, zq2r, zq2n, zq2j, zq2k, zq2l, zq2h, zq4w, zq8p, zq04, zq92, zq0e, zqa2])
    have e4 : (fun q => if q = (l[i]).core.toNat then join (C1 (l[i]).core.toNat) ((lookI ml (l[i]).addr).getD zck) else C1 q) = (st l (i + 1)).cores := by
     rw [hst, hml, hC1, ← hC]; funext q; simp only [stp, newC, if_pos hk4]
     split <;> rfl
    rw [spl4 C1 k0 k1, e4]
    refine ⟨by rw [hlen]; omega, _, hget 0 (by omega), _, hget 1 (by omega), _, hget 2 (by omega), _, hget 3 (by omega), fun g => ⟨hmem, fun A1 c1 => ⟨_, .add64 (by omega) (by omega), ?_⟩⟩⟩
    rw [hout]
    refine lend_rule fun a W rep => hI ⟨i + 1, ml, A1, c1⟩ ⟨hlt, hob (by omega)⟩ (by show l.length - (i + 1) < l.length - i; omega) a W (rep.res.le ?_ ?_) <;> (simp only [setn, List.nil_append, List.cons_append, leF, leH_nil, leH_cons, leF_nil, lk, scp, scpL, scpO, resF, resH, resO, resV, resVL, nth, Nat.reduceBEq, Nat.reduceLT, decide_true, decide_false, List.length, List.length_cons, List.length_nil, Nat.reduceAdd, Bool.and_self, Bool.and_true, and_true, true_and, numF] <;> try simp)
   ·have hk3 : (l[i]).kind = 3 := by simpa using hk3
    refine call_val (vs := [.agg (ckV ((lookI ml (l[i]).addr).getD zck)).toArray, .agg (ckV (C1 (l[i]).core.toNat)).toArray]) rfl (fun W hW => join48 _ _ W) fun v hv => ⟨.agg (ckS (join ((lookI ml (l[i]).addr).getD zck) (C1 (l[i]).core.toNat))), by rw [hv]; exact ck_is _ _, ?_⟩
    (refine still_y (by dsimp only [ckS, zq8t, zq6n, Nat.reduceBEq, zq6l, zq6k, zq5c, zq8o, zq1o, nth, zq1k, List.length_cons, List.length_nil, Nat.reduceAdd, dropL, takeL, zq19, zq18]; exact ⟨rfl, det_of_den rfl⟩) ?_; refine Y_go 600 ?_; dsimp only [ckS, zq8t, Y_k, zq64, zq8o, zq6n, Nat.reduceBEq, zq6k, den, denL, zq6l, zq4j, nth, zq00, zq92, zq4i, setn, YK, zq8s, zq9i, normF, zq6m, zq89, zq8a, zq87, zq86, zq8c, zq8f, zq8h, zqa1, zq9y, t19n6, T19n6, zq9q, zq4u, zq5i, zq29, zq5c, zq1o, zq1l, zq1c, List.nil_append, List.cons_append, zq1b, zq17, zq5h, List.map, zq6q, repL, zq23, Nat.reduceMul, zq7t, List.length_cons, List.length_nil, Nat.reduceAdd, zq8l, zq73, zq8m, zq8k, zq0a, dropL, takeL, zq20, splice, zq24, zq26, zq5l, zq2w, zq09, zq08, zq2s, zq9b, zq2r, zq2n, zq2j, zq2k, zq2l, zq2h, zq4w, zq8p, zq04, zq0e, zqa2])
    have em : mput (mlV ml) (.int .i64 (l[i]).addr) (.agg #[.int .i64 (join ((lookI ml (l[i]).addr).getD zck) (C1 (l[i]).core.toNat) 0), .int .i64 (join ((lookI ml (l[i]).addr).getD zck) (C1 (l[i]).core.toNat) 1), .int .i64 (join ((lookI ml (l[i]).addr).getD zck) (C1 (l[i]).core.toNat) 2), .int .i64 (join ((lookI ml (l[i]).addr).getD zck) (C1 (l[i]).core.toNat) 3)]) = mlV (putI ml (l[i]).addr (join ((lookI ml (l[i]).addr).getD zck) (C1 (l[i]).core.toNat))) := mlV_put ml _ _
    have ho2 : ∀ a, (lookI (putI ml (l[i]).addr (join ((lookI ml (l[i]).addr).getD zck) (C1 (l[i]).core.toNat))) a).getD zck = (st l (i + 1)).objs a := fun a => by
     rw [look_put, hst]
     have hnc : newC (st l i) l[i] = C1 (l[i]).core.toNat := by rw [hC1]; simp [newC, hk3]
     simp only [stp, hk3, true_and, hnc]
     split
     ·rename_i e; subst e; simp [hml]
     ·exact hml a
    rw [em, hnot4 (by omega)]
    refine ⟨mlV_key ml, _, hget 0 (by omega), _, hget 1 (by omega), _, hget 2 (by omega), _, hget 3 (by omega), fun g => ⟨hmem, fun A1 c1 => ⟨_, .add64 (by omega) (by omega), ?_⟩⟩⟩
    rw [hout]
    rw [hnot4 (by omega)] at ho2
    refine lend_rule fun a W rep => hI ⟨i + 1, _, A1, c1⟩ ⟨hlt, ho2⟩ (by show l.length - (i + 1) < l.length - i; omega) a W (rep.res.le ?_ ?_) <;> (simp only [setn, List.nil_append, List.cons_append, leF, leH_nil, leH_cons, leF_nil, lk, scp, scpL, scpO, resF, resH, resO, resV, resVL, nth, Nat.reduceBEq, Nat.reduceLT, decide_true, decide_false, List.length, List.length_cons, List.length_nil, Nat.reduceAdd, Bool.and_self, Bool.and_true, and_true, true_and, numF] <;> try simp)
   ·have hk4 : (l[i]).kind ≠ 4 := by simpa using hk
    have hk3 : (l[i]).kind ≠ 3 := by simpa using hk3
    rw [hnot4 hk4]
    refine ⟨_, hget 0 (by omega), _, hget 1 (by omega), _, hget 2 (by omega), _, hget 3 (by omega), fun g => ⟨hmem, fun A1 c1 => ⟨_, .add64 (by omega) (by omega), ?_⟩⟩⟩
    rw [hout]
    refine lend_rule fun a W rep => hI ⟨i + 1, ml, A1, c1⟩ ⟨hlt, hob hk3⟩ (by show l.length - (i + 1) < l.length - i; omega) a W (rep.res.le ?_ ?_) <;> (simp only [setn, List.nil_append, List.cons_append, leF, leH_nil, leH_cons, leF_nil, lk, scp, scpL, scpO, resF, resH, resO, resV, resVL, nth, Nat.reduceBEq, Nat.reduceLT, decide_true, decide_false, List.length, List.length_cons, List.length_nil, Nat.reduceAdd, Bool.and_self, Bool.and_true, and_true, true_and, numF] <;> try simp)
  ·have hil : i = l.length := by have := of_decide_eq_false h; omega
   subst hil
   refine ret_rule (vs := [.slice A' l.length c', .int .i64 0]) r19 rfl rfl fun W hW => hR _ _ ⟨hW.fresh', .inl ⟨ho, _, rfl, hW.owns (i := 2) rfl⟩⟩
end Go.Proofs.Ytnedgfkgmdoahaa
