/- The document's ShapeOf and shifted. -/
import Derived.Test.YtgghmmjoplddbaaDoorDBgIsa1
import Derived.Test.YtgghmmjoplddbaaDoorDBgCodeIsa
import Derived.Test.YtgghmmjoplddbaaDoorIsaSpec
import Derived.Test.YtgghmmjoplddbaaDoorSxStill
set_option linter.unusedSimpArgs false
set_option linter.unusedVariables false
set_option linter.unnecessarySimpa false
namespace Go.Proofs.YtgghmmjoplddbaaDoor
open Go Go.Sx Go.Isa
set_option maxRecDepth 100000
def hasV (op : Int) (wd : ByteArray) : Value := .agg #[.string wd, .bool (hasL op 65), .bool (hasL op 66), .bool (hasL op 67), .bool (hasL op 73)]
set_option maxHeartbeats 8000000 in
theorem shape119 (op : Int) (w : World) : CallsV Tryd.prog 54 [.int .i64 op] w fun v w' => (∃ wd, v = .tuple #[hasV op wd, .bool (isOp op)]) ∧ Fresh w w' := by
 refine calls_go (keep := K54) (nt := 54) (svs := [.val (.int .i64 op)]) Tryd.func54 x54 n54 (by simp) (by simp [IsL, Is]) fun R hR => ?_
 cases ho : isOp op with
 | true =>
  rcases isOp_cases ho with h | h | h | h | h | h | h | h | h | h | h | h | h | h | h | h | h | h <;> subst h
  all_goals (refine Y_go 600 ?_; dsimp only [X54, numF, Nat.reduceAdd, zq9r, zq9q, Y_k, zq5e, List.length_nil, List.map, zq6s, zq6p, List.nil_append, YK, zq8t, zq4u, zq8p, zq9i, normF, zq6n, Nat.reduceBEq, zq6l, zq6k, zq6m, zq86, zq8a, zq8c, zq87, zq9y, t54n29, T54n29, zq8o, t54n27, T54n27, zq9t, zq50, zq6q, zq04, zq92, zq9b, zq0i, zq9c, zq9s, zq6h, zq8x, YC, t54n0, T54n0, zq5g, zq21, zq7u, zq75, zq0a, dropL, takeL, zq20, splice, setn, zq22, zq25, zq5d, zq7t, List.length_cons, zq8l, zq8m, zq7i, zq8k, zq1x, nth, zq1t, zq1r, zq8s, zq6o, zq89, zq9x, t54n26, T54n26, t54n1, T54n1, zq7v, zq7h, t54n25, T54n25, t54n2, T54n2, t54n24, T54n24, zq9p, zq6f, t54n10, T54n10, zq5h, repL, List.cons_append, zq23, Nat.reduceMul, zq24, zq26, zq8e, t54n9, T54n9, zq4w, zq0e, zq58, zq06, zq0x, zq5c, zq1o, zq1k, t54n8, T54n8, t54n7, T54n7, t54n6, T54n6, t54n5, T54n5, t54n4, T54n4, t54n3, T54n3, t54n23, T54n23, t54n16, T54n16, t54n15, T54n15, t54n14, T54n14, t54n13, T54n13, t54n12, T54n12, t54n11, T54n11, t54n22, T54n22, t54n17, T54n17, t54n21, T54n21, t54n18, T54n18, t54n20, T54n20, t54n19, T54n19, zqa1, t54n28, T54n28])
  all_goals intro g
  all_goals simp only [Int.reduceBEq, Int.reduceBNe, Int.reduceToNat, Nat.reduceMul, Nat.reduceAdd, Int.reduceLT, Int.reduceLE, Int.reduceGT, Int.reduceGE, ge_iff_le, gt_iff_lt, Int.reduceSub, Int.reduceAdd, decide_true, decide_false, Bool.false_eq_true, Bool.true_eq_false, Bool.not_true, Bool.not_false, reduceCtorEq, false_implies, true_implies, forall_const, true_and, and_true]
  all_goals first | done | (exact ret_rv (vs := [_, _]) r54 rfl rfl fun W hW => hR _ _ ⟨⟨_, rfl⟩, hW.fresh'⟩) | skip
  all_goals intro g2
  ·refine ⟨0, .toSub (by omega) (by omega) (by omega), ⟨by omega, by omega⟩, ?_⟩
   simp only [Int.reduceBEq, Int.reduceBNe, Int.reduceToNat, Nat.reduceMul, Nat.reduceAdd, Int.reduceLT, Int.reduceLE, Int.reduceGT, Int.reduceGE, ge_iff_le, gt_iff_lt, Int.reduceSub, Int.reduceAdd, decide_true, decide_false, Bool.false_eq_true, Bool.true_eq_false, Bool.not_true, Bool.not_false, reduceCtorEq, false_implies, true_implies, forall_const, true_and, and_true]
   dsimp only [dropL, takeL, zq19, zq18, YK, zq8t, Y_k, zq5g, List.map, zq6s, zq6p, zq21, zq8o, zq6n, Nat.reduceBEq, zq6k, zq7u, zq75, zq0a, zq20, splice, setn, zq8p, zq6o, zq7v, zq7h, zq22, zq25, zq5d, zq6l, zq7t, List.length_cons, List.length_nil, Nat.reduceAdd, zq8l, zq8m, zq7i, zq8k, zq1x, nth, zq1t, zq1r, zq8s, zq4u, zq9i, normF, zq6m, zq86, zq89, zq8a, zq87, zq8e, zq8c, zq9x]
   exact ret_rv (vs := [_, _]) r54 rfl rfl fun W hW => hR _ _ ⟨⟨_, rfl⟩, hW.fresh'⟩
  ·refine ⟨1, .toSub (by omega) (by omega) (by omega), ⟨by omega, by omega⟩, ?_⟩
   simp only [Int.reduceBEq, Int.reduceBNe, Int.reduceToNat, Nat.reduceMul, Nat.reduceAdd, Int.reduceLT, Int.reduceLE, Int.reduceGT, Int.reduceGE, ge_iff_le, gt_iff_lt, Int.reduceSub, Int.reduceAdd, decide_true, decide_false, Bool.false_eq_true, Bool.true_eq_false, Bool.not_true, Bool.not_false, reduceCtorEq, false_implies, true_implies, forall_const, true_and, and_true]
   dsimp only [dropL, takeL, zq19, zq18, YK, zq8t, Y_k, zq5g, List.map, zq6s, zq6p, zq21, zq8o, zq6n, Nat.reduceBEq, zq6k, zq7u, zq75, zq0a, zq20, splice, setn, zq8p, zq6o, zq7v, zq7h, zq22, zq25, zq5d, zq6l, zq7t, List.length_cons, List.length_nil, Nat.reduceAdd, zq8l, zq8m, zq7i, zq8k, zq1x, nth, zq1t, zq1r, zq8s, zq4u, zq9i, normF, zq6m, zq86, zq89, zq8a, zq87, zq8e, zq8c, zq9x]
   exact ret_rv (vs := [_, _]) r54 rfl rfl fun W hW => hR _ _ ⟨⟨_, rfl⟩, hW.fresh'⟩
  ·refine ⟨2, .toSub (by omega) (by omega) (by omega), ⟨by omega, by omega⟩, ?_⟩
   simp only [Int.reduceBEq, Int.reduceBNe, Int.reduceToNat, Nat.reduceMul, Nat.reduceAdd, Int.reduceLT, Int.reduceLE, Int.reduceGT, Int.reduceGE, ge_iff_le, gt_iff_lt, Int.reduceSub, Int.reduceAdd, decide_true, decide_false, Bool.false_eq_true, Bool.true_eq_false, Bool.not_true, Bool.not_false, reduceCtorEq, false_implies, true_implies, forall_const, true_and, and_true]
   dsimp only [dropL, takeL, zq19, zq18, YK, zq8t, Y_k, zq5g, List.map, zq6s, zq6p, zq21, zq8o, zq6n, Nat.reduceBEq, zq6k, zq7u, zq75, zq0a, zq20, splice, setn, zq8p, zq6o, zq7v, zq7h, zq22, zq25, zq5d, zq6l, zq7t, List.length_cons, List.length_nil, Nat.reduceAdd, zq8l, zq8m, zq7i, zq8k, zq1x, nth, zq1t, zq1r, zq8s, zq4u, zq9i, normF, zq6m, zq86, zq89, zq8a, zq87, zq8e, zq8c, zq9x]
   exact ret_rv (vs := [_, _]) r54 rfl rfl fun W hW => hR _ _ ⟨⟨_, rfl⟩, hW.fresh'⟩
  ·refine ⟨3, .toSub (by omega) (by omega) (by omega), ⟨by omega, by omega⟩, ?_⟩
   simp only [Int.reduceBEq, Int.reduceBNe, Int.reduceToNat, Nat.reduceMul, Nat.reduceAdd, Int.reduceLT, Int.reduceLE, Int.reduceGT, Int.reduceGE, ge_iff_le, gt_iff_lt, Int.reduceSub, Int.reduceAdd, decide_true, decide_false, Bool.false_eq_true, Bool.true_eq_false, Bool.not_true, Bool.not_false, reduceCtorEq, false_implies, true_implies, forall_const, true_and, and_true]
   dsimp only [dropL, takeL, zq19, zq18, YK, zq8t, Y_k, zq5g, List.map, zq6s, zq6p, zq21, zq8o, zq6n, Nat.reduceBEq, zq6k, zq7u, zq75, zq0a, zq20, splice, setn, zq8p, zq6o, zq7v, zq7h, zq22, zq25, zq5d, zq6l, zq7t, List.length_cons, List.length_nil, Nat.reduceAdd, zq8l, zq8m, zq7i, zq8k, zq1x, nth, zq1t, zq1r, zq8s, zq4u, zq9i, normF, zq6m, zq86, zq89, zq8a, zq87, zq8e, zq8c, zq9x]
   exact ret_rv (vs := [_, _]) r54 rfl rfl fun W hW => hR _ _ ⟨⟨_, rfl⟩, hW.fresh'⟩
  ·refine ⟨4, .toSub (by omega) (by omega) (by omega), ⟨by omega, by omega⟩, ?_⟩
   simp only [Int.reduceBEq, Int.reduceBNe, Int.reduceToNat, Nat.reduceMul, Nat.reduceAdd, Int.reduceLT, Int.reduceLE, Int.reduceGT, Int.reduceGE, ge_iff_le, gt_iff_lt, Int.reduceSub, Int.reduceAdd, decide_true, decide_false, Bool.false_eq_true, Bool.true_eq_false, Bool.not_true, Bool.not_false, reduceCtorEq, false_implies, true_implies, forall_const, true_and, and_true]
   dsimp only [dropL, takeL, zq19, zq18, YK, zq8t, Y_k, zq5g, List.map, zq6s, zq6p, zq21, zq8o, zq6n, Nat.reduceBEq, zq6k, zq7u, zq75, zq0a, zq20, splice, setn, zq8p, zq6o, zq7v, zq7h, zq22, zq25, zq5d, zq6l, zq7t, List.length_cons, List.length_nil, Nat.reduceAdd, zq8l, zq8m, zq7i, zq8k, zq1x, nth, zq1t, zq1r, zq8s, zq4u, zq9i, normF, zq6m, zq86, zq89, zq8a, zq87, zq8e, zq8c, zq9x]
   exact ret_rv (vs := [_, _]) r54 rfl rfl fun W hW => hR _ _ ⟨⟨_, rfl⟩, hW.fresh'⟩
  ·refine ⟨5, .toSub (by omega) (by omega) (by omega), ⟨by omega, by omega⟩, ?_⟩
   simp only [Int.reduceBEq, Int.reduceBNe, Int.reduceToNat, Nat.reduceMul, Nat.reduceAdd, Int.reduceLT, Int.reduceLE, Int.reduceGT, Int.reduceGE, ge_iff_le, gt_iff_lt, Int.reduceSub, Int.reduceAdd, decide_true, decide_false, Bool.false_eq_true, Bool.true_eq_false, Bool.not_true, Bool.not_false, reduceCtorEq, false_implies, true_implies, forall_const, true_and, and_true]
   dsimp only [dropL, takeL, zq19, zq18, YK, zq8t, Y_k, zq5g, List.map, zq6s, zq6p, zq21, zq8o, zq6n, Nat.reduceBEq, zq6k, zq7u, zq75, zq0a, zq20, splice, setn, zq8p, zq6o, zq7v, zq7h, zq22, zq25, zq5d, zq6l, zq7t, List.length_cons, List.length_nil, Nat.reduceAdd, zq8l, zq8m, zq7i, zq8k, zq1x, nth, zq1t, zq1r, zq8s, zq4u, zq9i, normF, zq6m, zq86, zq89, zq8a, zq87, zq8e, zq8c, zq9x]
   exact ret_rv (vs := [_, _]) r54 rfl rfl fun W hW => hR _ _ ⟨⟨_, rfl⟩, hW.fresh'⟩
  ·refine ⟨6, .toSub (by omega) (by omega) (by omega), ⟨by omega, by omega⟩, ?_⟩
   simp only [Int.reduceBEq, Int.reduceBNe, Int.reduceToNat, Nat.reduceMul, Nat.reduceAdd, Int.reduceLT, Int.reduceLE, Int.reduceGT, Int.reduceGE, ge_iff_le, gt_iff_lt, Int.reduceSub, Int.reduceAdd, decide_true, decide_false, Bool.false_eq_true, Bool.true_eq_false, Bool.not_true, Bool.not_false, reduceCtorEq, false_implies, true_implies, forall_const, true_and, and_true]
   dsimp only [dropL, takeL, zq19, zq18, YK, zq8t, Y_k, zq5g, List.map, zq6s, zq6p, zq21, zq8o, zq6n, Nat.reduceBEq, zq6k, zq7u, zq75, zq0a, zq20, splice, setn, zq8p, zq6o, zq7v, zq7h, zq22, zq25, zq5d, zq6l, zq7t, List.length_cons, List.length_nil, Nat.reduceAdd, zq8l, zq8m, zq7i, zq8k, zq1x, nth, zq1t, zq1r, zq8s, zq4u, zq9i, normF, zq6m, zq86, zq89, zq8a, zq87, zq8e, zq8c, zq9x]
   exact ret_rv (vs := [_, _]) r54 rfl rfl fun W hW => hR _ _ ⟨⟨_, rfl⟩, hW.fresh'⟩
  ·refine ⟨0, .toSub (by omega) (by omega) (by omega), ⟨by omega, by omega⟩, ?_⟩
   simp only [Int.reduceBEq, Int.reduceBNe, Int.reduceToNat, Nat.reduceMul, Nat.reduceAdd, Int.reduceLT, Int.reduceLE, Int.reduceGT, Int.reduceGE, ge_iff_le, gt_iff_lt, Int.reduceSub, Int.reduceAdd, decide_true, decide_false, Bool.false_eq_true, Bool.true_eq_false, Bool.not_true, Bool.not_false, reduceCtorEq, false_implies, true_implies, forall_const, true_and, and_true]
   dsimp only [dropL, takeL, zq19, zq18, YK, zq8t, Y_k, zq5g, List.map, zq6s, zq6p, zq21, zq8o, zq6n, Nat.reduceBEq, zq6k, zq7u, zq75, zq0a, zq20, splice, setn, zq8p, zq6o, zq7v, zq7h, zq22, zq25, zq5d, zq6l, zq7t, List.length_cons, List.length_nil, Nat.reduceAdd, zq8l, zq8m, zq7i, zq8k, zq1x, nth, zq1t, zq1r, zq8s, zq4u, zq9i, normF, zq6m, zq86, zq89, zq8a, zq87, zq8e, zq8c, zq9x]
   exact ret_rv (vs := [_, _]) r54 rfl rfl fun W hW => hR _ _ ⟨⟨_, rfl⟩, hW.fresh'⟩
  ·refine ⟨1, .toSub (by omega) (by omega) (by omega), ⟨by omega, by omega⟩, ?_⟩
   simp only [Int.reduceBEq, Int.reduceBNe, Int.reduceToNat, Nat.reduceMul, Nat.reduceAdd, Int.reduceLT, Int.reduceLE, Int.reduceGT, Int.reduceGE, ge_iff_le, gt_iff_lt, Int.reduceSub, Int.reduceAdd, decide_true, decide_false, Bool.false_eq_true, Bool.true_eq_false, Bool.not_true, Bool.not_false, reduceCtorEq, false_implies, true_implies, forall_const, true_and, and_true]
   dsimp only [dropL, takeL, zq19, zq18, YK, zq8t, Y_k, zq5g, List.map, zq6s, zq6p, zq21, zq8o, zq6n, Nat.reduceBEq, zq6k, zq7u, zq75, zq0a, zq20, splice, setn, zq8p, zq6o, zq7v, zq7h, zq22, zq25, zq5d, zq6l, zq7t, List.length_cons, List.length_nil, Nat.reduceAdd, zq8l, zq8m, zq7i, zq8k, zq1x, nth, zq1t, zq1r, zq8s, zq4u, zq9i, normF, zq6m, zq86, zq89, zq8a, zq87, zq8e, zq8c, zq9x]
   exact ret_rv (vs := [_, _]) r54 rfl rfl fun W hW => hR _ _ ⟨⟨_, rfl⟩, hW.fresh'⟩
  ·refine ⟨3, .toSub (by omega) (by omega) (by omega), ⟨by omega, by omega⟩, ?_⟩
   simp only [Int.reduceBEq, Int.reduceBNe, Int.reduceToNat, Nat.reduceMul, Nat.reduceAdd, Int.reduceLT, Int.reduceLE, Int.reduceGT, Int.reduceGE, ge_iff_le, gt_iff_lt, Int.reduceSub, Int.reduceAdd, decide_true, decide_false, Bool.false_eq_true, Bool.true_eq_false, Bool.not_true, Bool.not_false, reduceCtorEq, false_implies, true_implies, forall_const, true_and, and_true]
   dsimp only [dropL, takeL, zq19, zq18, YK, zq8t, Y_k, zq5g, List.map, zq6s, zq6p, zq21, zq8o, zq6n, Nat.reduceBEq, zq6k, zq7u, zq75, zq0a, zq20, splice, setn, zq8p, zq6o, zq7v, zq7h, zq22, zq25, zq5d, zq6l, zq7t, List.length_cons, List.length_nil, Nat.reduceAdd, zq8l, zq8m, zq7i, zq8k, zq1x, nth, zq1t, zq1r, zq8s, zq4u, zq9i, normF, zq6m, zq86, zq89, zq8a, zq87, zq8e, zq8c, zq9x]
   exact ret_rv (vs := [_, _]) r54 rfl rfl fun W hW => hR _ _ ⟨⟨_, rfl⟩, hW.fresh'⟩
  ·refine ⟨4, .toSub (by omega) (by omega) (by omega), ⟨by omega, by omega⟩, ?_⟩
   simp only [Int.reduceBEq, Int.reduceBNe, Int.reduceToNat, Nat.reduceMul, Nat.reduceAdd, Int.reduceLT, Int.reduceLE, Int.reduceGT, Int.reduceGE, ge_iff_le, gt_iff_lt, Int.reduceSub, Int.reduceAdd, decide_true, decide_false, Bool.false_eq_true, Bool.true_eq_false, Bool.not_true, Bool.not_false, reduceCtorEq, false_implies, true_implies, forall_const, true_and, and_true]
   dsimp only [dropL, takeL, zq19, zq18, YK, zq8t, Y_k, zq5g, List.map, zq6s, zq6p, zq21, zq8o, zq6n, Nat.reduceBEq, zq6k, zq7u, zq75, zq0a, zq20, splice, setn, zq8p, zq6o, zq7v, zq7h, zq22, zq25, zq5d, zq6l, zq7t, List.length_cons, List.length_nil, Nat.reduceAdd, zq8l, zq8m, zq7i, zq8k, zq1x, nth, zq1t, zq1r, zq8s, zq4u, zq9i, normF, zq6m, zq86, zq89, zq8a, zq87, zq8e, zq8c, zq9x]
   exact ret_rv (vs := [_, _]) r54 rfl rfl fun W hW => hR _ _ ⟨⟨_, rfl⟩, hW.fresh'⟩
  ·refine ⟨5, .toSub (by omega) (by omega) (by omega), ⟨by omega, by omega⟩, ?_⟩
   simp only [Int.reduceBEq, Int.reduceBNe, Int.reduceToNat, Nat.reduceMul, Nat.reduceAdd, Int.reduceLT, Int.reduceLE, Int.reduceGT, Int.reduceGE, ge_iff_le, gt_iff_lt, Int.reduceSub, Int.reduceAdd, decide_true, decide_false, Bool.false_eq_true, Bool.true_eq_false, Bool.not_true, Bool.not_false, reduceCtorEq, false_implies, true_implies, forall_const, true_and, and_true]
   dsimp only [dropL, takeL, zq19, zq18, YK, zq8t, Y_k, zq5g, List.map, zq6s, zq6p, zq21, zq8o, zq6n, Nat.reduceBEq, zq6k, zq7u, zq75, zq0a, zq20, splice, setn, zq8p, zq6o, zq7v, zq7h, zq22, zq25, zq5d, zq6l, zq7t, List.length_cons, List.length_nil, Nat.reduceAdd, zq8l, zq8m, zq7i, zq8k, zq1x, nth, zq1t, zq1r, zq8s, zq4u, zq9i, normF, zq6m, zq86, zq89, zq8a, zq87, zq8e, zq8c, zq9x]
   exact ret_rv (vs := [_, _]) r54 rfl rfl fun W hW => hR _ _ ⟨⟨_, rfl⟩, hW.fresh'⟩
 | false =>
  have hn : ∀ k : Int, 1 ≤ k → k ≤ 18 → (op == k) = false := by
   intro k h1 h2
   rw [beq_eq_false_iff_ne]
   intro e; subst e; simp [isOp, h1, h2] at ho
  (refine Y_go 600 ?_; dsimp only [X54, numF, Nat.reduceAdd, zq9r, zq9q, Y_k, zq5e, List.length_nil, List.map, zq6s, zq6p, List.nil_append, YK, zq8t, zq4u, zq8p, zq9i, normF, zq6n, Nat.reduceBEq, zq6l, zq6k, zq6m, zq86, zq8a, zq8c, zq87, zq9y, t54n29, T54n29, zq8o, t54n27, T54n27, zq9t, zq50, zq6q, zq04, zq92, zq9b, zq0i, zq9c, zq9s, zq6h, zq8x, YC, t54n0, T54n0, zq5g, zq21, zq7u, zq75, zq0a, dropL, takeL, zq20, splice, setn, zq22, zq25, zq5d, zq7t, List.length_cons, zq8l, zq8m, zq7i, zq8k, zq1x, nth, zq1t, zq1r, zq8s, zq6o, zq89, zq9x, t54n26, T54n26, t54n1, T54n1, zq7v, zq7h, t54n25, T54n25, t54n2, T54n2, t54n24, T54n24, zq9p, zq6f, t54n10, T54n10, zq5h, repL, List.cons_append, zq23, Nat.reduceMul, zq24, zq26, zq8e, t54n9, T54n9, zq4w, zq0e, zq58, zq06, zq0x, zq5c, zq1o, zq1k, t54n8, T54n8, t54n7, T54n7, t54n6, T54n6, t54n5, T54n5, t54n4, T54n4, t54n3, T54n3, t54n23, T54n23, t54n16, T54n16, t54n15, T54n15, t54n14, T54n14, t54n13, T54n13, t54n12, T54n12, t54n11, T54n11, t54n22, T54n22, t54n17, T54n17, t54n21, T54n21, t54n18, T54n18, t54n20, T54n20, t54n19, T54n19, zqa1, t54n28, T54n28])
  intro g
  simp only [hn 1 (by omega) (by omega), hn 2 (by omega) (by omega), hn 3 (by omega) (by omega), hn 4 (by omega) (by omega), hn 5 (by omega) (by omega), hn 6 (by omega) (by omega), hn 7 (by omega) (by omega), hn 8 (by omega) (by omega), hn 9 (by omega) (by omega), hn 10 (by omega) (by omega), hn 11 (by omega) (by omega), hn 12 (by omega) (by omega), hn 13 (by omega) (by omega), hn 14 (by omega) (by omega), hn 15 (by omega) (by omega), hn 16 (by omega) (by omega), hn 17 (by omega) (by omega), hn 18 (by omega) (by omega)]
  simp only [Int.reduceBEq, Int.reduceBNe, Int.reduceToNat, Nat.reduceMul, Nat.reduceAdd, Int.reduceLT, Int.reduceLE, Int.reduceGT, Int.reduceGE, ge_iff_le, gt_iff_lt, Int.reduceSub, Int.reduceAdd, decide_true, decide_false, Bool.false_eq_true, Bool.true_eq_false, Bool.not_true, Bool.not_false, reduceCtorEq, false_implies, true_implies, forall_const, true_and, and_true]
  have e : ∀ c, hasL op c = false := by intro c; simp [hasL, nmL_out ho, Lib.indexByte]
  exact ret_rv (vs := [_, _]) r54 rfl rfl fun W hW => hR _ _ ⟨⟨_, by simp only [hasV, e, ho]; rfl⟩, hW.fresh'⟩
end Go.Proofs.YtgghmmjoplddbaaDoor
namespace Go.Proofs.YtgghmmjoplddbaaDoor
open Go Go.Sx Go.Isa
set_option maxRecDepth 100000
theorem legal90 (x : In) (w : World) : CallsV Tryd.prog 35 [In.val x] w fun v w' => v = .bool (legalB x) ∧ Fresh w w' := by
 refine calls_go (keep := K35) (nt := 42) (svs := [.agg (In.sv x)]) Tryd.func35 x35 n35 (by simp) (by simp only [IsL]; exact ⟨_, _, In.is _ x, rfl, rfl⟩) fun R hR => ?_
 (refine Y_go 600 ?_; dsimp only [X35, In.sv, numF, Nat.reduceAdd, zq9r, zq9q, Y_k, zq5f, zq8o, zq6n, Nat.reduceBEq, zq6k, zq7t, List.length_cons, List.length_nil, zq8l, zq73, zq8m, zq8k, zq0a, zq1z, List.nil_append, YK, zq8t, zq4u, zq8p, zq6p, zq9i, normF, zq6l, zq6m, zq86, zq8a, zq8c, zq88, zq9y, t35n1, T35n1, zq5a, zq14, Nat.add_zero, zq5c, zq1o, nth, zq1k, dropL, takeL, zq19, zq18, zq9j])
 intro g
 refine call_val (vs := [.int .i64 x.op]) rfl (fun W hW => shape119 x.op W) fun v ⟨wd, hv⟩ => ⟨.tup [.agg [.val (.string wd), .val (.bool (hasL x.op 65)), .val (.bool (hasL x.op 66)), .val (.bool (hasL x.op 67)), .val (.bool (hasL x.op 73))], .val (.bool (isOp x.op))], by rw [hv]; simp [Is, IsL, hasV], ?_⟩
 (refine Y_go 600 ?_; dsimp only [zq8t, Y_k, zq4u, zq8o, zq6n, Nat.reduceBEq, zq6k, YK, zq5j, zq2f, nth, zq2e, zq6l, zq5e, List.length_cons, List.length_nil, Nat.reduceAdd, List.map, zq6s, zq6p, List.cons_append, List.nil_append, zq5d, zq7t, zq8l, zq75, zq8m, zq7g, zq8k, zq0a, zq1x, zq1t, dropL, takeL, zq1r, splice, setn, zq8s, zq9i, normF, zq87, zq8c, zq8a, zq88, zq9y, t35n0, T35n0, zq9r, zq9q, Y_gk, zq6d, YR, zq5a, zq14, zq69, zq5c, zq1o, zq1k, zq19, zq18, zq53, zq0o, zq6e, YS, zq6a, zq9l, zq4v, zq8p, zq6o, zq0b, zq89, zq9x, zq6c, YG, zq6b, zq03, zq0c])
 intro g2
 have fin : ∀ (b : Bool) F H, legalB x = b → denAll H F [2] = some [.bool b] → RetG (cxOf Tryd.prog Tryd.f35 K35 T35 R) ⟨w, w.heap.size, [], 42, []⟩ { F := F, H := H } := by
  intro b F H hb hd
  refine ret_rule (vs := [.bool b]) r35 rfl hd fun W hW => hR _ _ ⟨by rw [hb]; rfl, hW.fresh'⟩
 refine ⟨fun h0 => ?_, fun h0 => ?_⟩
 rotate_left
 ·exact fin false _ _ (by simp [legalB, h0]) rfl
 ·refine ⟨fun h1 => ?_, fun h1 => ?_⟩
  ·refine ⟨fun h2 => ?_, fun h2 => ?_⟩
   ·refine ⟨fun h3 => ?_, fun h3 => ?_⟩
    ·exact fin true _ _ (by simp_all [legalB]) rfl
    ·refine call_val (vs := [.int .i64 x.c]) rfl (fun W hW => reg120 x.c W) fun v hv => ⟨.val (.bool (isReg x.c)), by rw [hv]; simp [Is], ?_⟩
     (refine Y_go 600 ?_; dsimp only [zq8t, Y_gk, zq6n, Nat.reduceBEq, zq6l, zq6k, zq69, YR, zq4v, zq8p, zq6o, zq8o, zq0c, YK, Y_k, zq6p, zq0b, zq4u, zq9i, normF, zq87, zq8c, zq88, zq9x])
     exact fin (isReg x.c) _ _ (by simp_all [legalB]) rfl
   ·refine call_val (vs := [.int .i64 x.b]) rfl (fun W hW => reg120 x.b W) fun v hv => ⟨.val (.bool (isReg x.b)), by rw [hv]; simp [Is], ?_⟩
    (refine Y_go 600 ?_; dsimp only [zq8t, Y_gk, zq6n, Nat.reduceBEq, zq6l, zq6k, zq69, YR, zq4v, zq8p, zq6o, zq8o, zq0c, YK, Y_k, zq6p, zq0b, zq4u, zq6d, zq5a, zq14, Nat.reduceAdd, zq5c, zq1o, nth, zq1k, List.length_cons, List.length_nil, dropL, takeL, zq19, zq18, zq53, zq0o, zq6e, YS, zq6a, zq9l, zq9i, normF, zq87, zq8c, zq89, zq88, zq9x, zq6c, YG, zq6b, zq03, zq8a])
    refine ⟨fun e2 => ?_, fun e2 => ?_⟩
    ·refine ⟨fun h3 => ?_, fun h3 => ?_⟩
     ·exact fin true _ _ (by simp_all [legalB]) rfl
     ·refine call_val (vs := [.int .i64 x.c]) rfl (fun W hW => reg120 x.c W) fun v hv => ⟨.val (.bool (isReg x.c)), by rw [hv]; simp [Is], ?_⟩
      (refine Y_go 600 ?_; dsimp only [zq8t, Y_gk, zq6n, Nat.reduceBEq, zq6l, zq6k, zq69, YR, zq4v, zq8p, zq6o, zq8o, zq0c, YK, Y_k, zq6p, zq0b, zq4u, zq9i, normF, zq87, zq8c, zq88, zq9x])
      exact fin (isReg x.c) _ _ (by simp_all [legalB]) rfl
    ·exact fin false _ _ (by simp_all [legalB]) rfl
  ·refine call_val (vs := [.int .i64 x.a]) rfl (fun W hW => reg120 x.a W) fun v hv => ⟨.val (.bool (isReg x.a)), by rw [hv]; simp [Is], ?_⟩
   (refine Y_go 600 ?_; dsimp only [zq8t, Y_gk, zq6n, Nat.reduceBEq, zq6l, zq6k, zq69, YR, zq4v, zq8p, zq6o, zq8o, zq0c, YK, Y_k, zq6p, zq0b, zq4u, zq6d, zq5a, zq14, Nat.reduceAdd, zq5c, zq1o, nth, zq1k, List.length_cons, List.length_nil, dropL, takeL, zq19, zq18, zq53, zq0o, zq6e, YS, zq6a, zq9l, zq9i, normF, zq87, zq8c, zq89, zq88, zq9x, zq6c, YG, zq6b, zq03, zq8a])
   refine ⟨fun e1 => ?_, fun e1 => ?_⟩
   ·refine ⟨fun h2 => ?_, fun h2 => ?_⟩
    ·refine ⟨fun h3 => ?_, fun h3 => ?_⟩
     ·exact fin true _ _ (by simp_all [legalB]) rfl
     ·refine call_val (vs := [.int .i64 x.c]) rfl (fun W hW => reg120 x.c W) fun v hv => ⟨.val (.bool (isReg x.c)), by rw [hv]; simp [Is], ?_⟩
      (refine Y_go 600 ?_; dsimp only [zq8t, Y_gk, zq6n, Nat.reduceBEq, zq6l, zq6k, zq69, YR, zq4v, zq8p, zq6o, zq8o, zq0c, YK, Y_k, zq6p, zq0b, zq4u, zq9i, normF, zq87, zq8c, zq88, zq9x])
      exact fin (isReg x.c) _ _ (by simp_all [legalB]) rfl
    ·refine call_val (vs := [.int .i64 x.b]) rfl (fun W hW => reg120 x.b W) fun v hv => ⟨.val (.bool (isReg x.b)), by rw [hv]; simp [Is], ?_⟩
     (refine Y_go 600 ?_; dsimp only [zq8t, Y_gk, zq6n, Nat.reduceBEq, zq6l, zq6k, zq69, YR, zq4v, zq8p, zq6o, zq8o, zq0c, YK, Y_k, zq6p, zq0b, zq4u, zq6d, zq5a, zq14, Nat.reduceAdd, zq5c, zq1o, nth, zq1k, List.length_cons, List.length_nil, dropL, takeL, zq19, zq18, zq53, zq0o, zq6e, YS, zq6a, zq9l, zq9i, normF, zq87, zq8c, zq89, zq88, zq9x, zq6c, YG, zq6b, zq03, zq8a])
     refine ⟨fun e2 => ?_, fun e2 => ?_⟩
     ·refine ⟨fun h3 => ?_, fun h3 => ?_⟩
      ·exact fin true _ _ (by simp_all [legalB]) rfl
      ·refine call_val (vs := [.int .i64 x.c]) rfl (fun W hW => reg120 x.c W) fun v hv => ⟨.val (.bool (isReg x.c)), by rw [hv]; simp [Is], ?_⟩
       (refine Y_go 600 ?_; dsimp only [zq8t, Y_gk, zq6n, Nat.reduceBEq, zq6l, zq6k, zq69, YR, zq4v, zq8p, zq6o, zq8o, zq0c, YK, Y_k, zq6p, zq0b, zq4u, zq9i, normF, zq87, zq8c, zq88, zq9x])
       exact fin (isReg x.c) _ _ (by simp_all [legalB]) rfl
     ·exact fin false _ _ (by simp_all [legalB]) rfl
   ·exact fin false _ _ (by simp_all [legalB]) rfl
end Go.Proofs.YtgghmmjoplddbaaDoor
namespace Go.Proofs.YtgghmmjoplddbaaDoor
open Go Go.Sx Go.Isa
set_option maxRecDepth 100000
theorem someI {w : World} {A : Option Addr} {l : List In} {i : Nat} (h : RowAt w A (cellsI l)) (hi : i < l.length) : A.isSome = true := h.isSome (j := i * 5) (by rw [cellsI_len]; omega)
end Go.Proofs.YtgghmmjoplddbaaDoor
