/- The document's ShapeOf and shifted. -/
import Derived.Test.YtlbiogokpadaoaaGreatDoorBgIsa1
import Derived.Test.YtlbiogokpadaoaaGreatDoorBgCodeIsa
import Derived.Test.YtlbiogokpadaoaaGreatDoorIsaSpec
import Derived.Test.YtlbiogokpadaoaaGreatDoorSxStill
import Derived.Test.YtlbiogokpadaoaaGreatDoorBgCodeThr
set_option linter.unusedSimpArgs false
set_option linter.unusedVariables false
set_option linter.unnecessarySimpa false
namespace Go.Proofs.YtlbiogokpadaoaaGreatDoor
open Go Go.Sx Go.Isa
set_option maxRecDepth 100000
def hasV (op : Int) (wd : ByteArray) : Value := .agg #[.string wd, .bool (hasL op 65), .bool (hasL op 66), .bool (hasL op 67), .bool (hasL op 73)]
set_option maxHeartbeats 8000000 in
theorem shape119 (op : Int) (w : World) : CallsV Tryz.prog 119 [.int .i64 op] w fun v w' => (∃ wd, v = .tuple #[hasV op wd, .bool (isOp op)]) ∧ Fresh w w' := by
 refine calls_go (keep := K119) (nt := 54) (svs := [.val (.int .i64 op)]) Tryz.func119 x119 n119 (by simp) (by simp [IsL, Is]) fun R hR => ?_
 cases ho : isOp op with
 | true =>
  rcases isOp_cases ho with h | h | h | h | h | h | h | h | h | h | h | h | h | h | h | h | h | h <;> subst h
  all_goals (refine Y_go 600 ?_; dsimp only [X119, numF, Nat.reduceAdd, zq9r, zq9q, Y_k, zq5e, List.length_nil, List.map, zq6s, zq6p, List.nil_append, YK, zq8t, zq4u, zq8p, zq9i, normF, zq6n, Nat.reduceBEq, zq6l, zq6k, zq6m, zq86, zq8a, zq8c, zq87, zq9y, t119n29, T119n29, zq8o, t119n27, T119n27, zq9t, zq50, zq6q, zq04, zq92, zq9b, zq0i, zq9c, zq9s, zq6h, zq8x, YC, t119n0, T119n0, zq5g, zq21, zq7u, zq75, zq0a, dropL, takeL, zq20, splice, setn, zq22, zq25, zq5d, zq7t, List.length_cons, zq8l, zq8m, zq7i, zq8k, zq1x, nth, zq1t, zq1r, zq8s, zq6o, zq89, zq9x, t119n26, T119n26, t119n1, T119n1, zq7v, zq7h, t119n25, T119n25, t119n2, T119n2, t119n24, T119n24, zq9p, zq6f, t119n10, T119n10, zq5h, repL, List.cons_append, zq23, Nat.reduceMul, zq24, zq26, zq8e, t119n9, T119n9, zq4w, zq0e, zq58, zq06, zq0x, zq5c, zq1o, zq1k, t119n8, T119n8, t119n7, T119n7, t119n6, T119n6, t119n5, T119n5, t119n4, T119n4, t119n3, T119n3, t119n23, T119n23, t119n16, T119n16, t119n15, T119n15, t119n14, T119n14, t119n13, T119n13, t119n12, T119n12, t119n11, T119n11, t119n22, T119n22, t119n17, T119n17, t119n21, T119n21, t119n18, T119n18, t119n20, T119n20, t119n19, T119n19, zqa1, t119n28, T119n28])
  all_goals intro g
  all_goals simp only [Int.reduceBEq, Int.reduceBNe, Int.reduceToNat, Nat.reduceMul, Nat.reduceAdd, Int.reduceLT, Int.reduceLE, Int.reduceGT, Int.reduceGE, ge_iff_le, gt_iff_lt, Int.reduceSub, Int.reduceAdd, decide_true, decide_false, Bool.false_eq_true, Bool.true_eq_false, Bool.not_true, Bool.not_false, reduceCtorEq, false_implies, true_implies, forall_const, true_and, and_true]
  all_goals first | done | (exact ret_rv (vs := [_, _]) r119 rfl rfl fun W hW => hR _ _ ⟨⟨_, rfl⟩, hW.fresh'⟩) | skip
  all_goals intro g2
  ·refine ⟨0, .toSub (by omega) (by omega) (by omega), ⟨by omega, by omega⟩, ?_⟩
   simp only [Int.reduceBEq, Int.reduceBNe, Int.reduceToNat, Nat.reduceMul, Nat.reduceAdd, Int.reduceLT, Int.reduceLE, Int.reduceGT, Int.reduceGE, ge_iff_le, gt_iff_lt, Int.reduceSub, Int.reduceAdd, decide_true, decide_false, Bool.false_eq_true, Bool.true_eq_false, Bool.not_true, Bool.not_false, reduceCtorEq, false_implies, true_implies, forall_const, true_and, and_true]
   dsimp only [dropL, takeL, zq19, zq18, YK, zq8t, Y_k, zq5g, List.map, zq6s, zq6p, zq21, zq8o, zq6n, Nat.reduceBEq, zq6k, zq7u, zq75, zq0a, zq20, splice, setn, zq8p, zq6o, zq7v, zq7h, zq22, zq25, zq5d, zq6l, zq7t, List.length_cons, List.length_nil, Nat.reduceAdd, zq8l, zq8m, zq7i, zq8k, zq1x, nth, zq1t, zq1r, zq8s, zq4u, zq9i, normF, zq6m, zq86, zq89, zq8a, zq87, zq8e, zq8c, zq9x]
   exact ret_rv (vs := [_, _]) r119 rfl rfl fun W hW => hR _ _ ⟨⟨_, rfl⟩, hW.fresh'⟩
  ·refine ⟨1, .toSub (by omega) (by omega) (by omega), ⟨by omega, by omega⟩, ?_⟩
   simp only [Int.reduceBEq, Int.reduceBNe, Int.reduceToNat, Nat.reduceMul, Nat.reduceAdd, Int.reduceLT, Int.reduceLE, Int.reduceGT, Int.reduceGE, ge_iff_le, gt_iff_lt, Int.reduceSub, Int.reduceAdd, decide_true, decide_false, Bool.false_eq_true, Bool.true_eq_false, Bool.not_true, Bool.not_false, reduceCtorEq, false_implies, true_implies, forall_const, true_and, and_true]
   dsimp only [dropL, takeL, zq19, zq18, YK, zq8t, Y_k, zq5g, List.map, zq6s, zq6p, zq21, zq8o, zq6n, Nat.reduceBEq, zq6k, zq7u, zq75, zq0a, zq20, splice, setn, zq8p, zq6o, zq7v, zq7h, zq22, zq25, zq5d, zq6l, zq7t, List.length_cons, List.length_nil, Nat.reduceAdd, zq8l, zq8m, zq7i, zq8k, zq1x, nth, zq1t, zq1r, zq8s, zq4u, zq9i, normF, zq6m, zq86, zq89, zq8a, zq87, zq8e, zq8c, zq9x]
   exact ret_rv (vs := [_, _]) r119 rfl rfl fun W hW => hR _ _ ⟨⟨_, rfl⟩, hW.fresh'⟩
  ·refine ⟨2, .toSub (by omega) (by omega) (by omega), ⟨by omega, by omega⟩, ?_⟩
   simp only [Int.reduceBEq, Int.reduceBNe, Int.reduceToNat, Nat.reduceMul, Nat.reduceAdd, Int.reduceLT, Int.reduceLE, Int.reduceGT, Int.reduceGE, ge_iff_le, gt_iff_lt, Int.reduceSub, Int.reduceAdd, decide_true, decide_false, Bool.false_eq_true, Bool.true_eq_false, Bool.not_true, Bool.not_false, reduceCtorEq, false_implies, true_implies, forall_const, true_and, and_true]
   dsimp only [dropL, takeL, zq19, zq18, YK, zq8t, Y_k, zq5g, List.map, zq6s, zq6p, zq21, zq8o, zq6n, Nat.reduceBEq, zq6k, zq7u, zq75, zq0a, zq20, splice, setn, zq8p, zq6o, zq7v, zq7h, zq22, zq25, zq5d, zq6l, zq7t, List.length_cons, List.length_nil, Nat.reduceAdd, zq8l, zq8m, zq7i, zq8k, zq1x, nth, zq1t, zq1r, zq8s, zq4u, zq9i, normF, zq6m, zq86, zq89, zq8a, zq87, zq8e, zq8c, zq9x]
   exact ret_rv (vs := [_, _]) r119 rfl rfl fun W hW => hR _ _ ⟨⟨_, rfl⟩, hW.fresh'⟩
  ·refine ⟨3, .toSub (by omega) (by omega) (by omega), ⟨by omega, by omega⟩, ?_⟩
   simp only [Int.reduceBEq, Int.reduceBNe, Int.reduceToNat, Nat.reduceMul, Nat.reduceAdd, Int.reduceLT, Int.reduceLE, Int.reduceGT, Int.reduceGE, ge_iff_le, gt_iff_lt, Int.reduceSub, Int.reduceAdd, decide_true, decide_false, Bool.false_eq_true, Bool.true_eq_false, Bool.not_true, Bool.not_false, reduceCtorEq, false_implies, true_implies, forall_const, true_and, and_true]
   dsimp only [dropL, takeL, zq19, zq18, YK, zq8t, Y_k, zq5g, List.map, zq6s, zq6p, zq21, zq8o, zq6n, Nat.reduceBEq, zq6k, zq7u, zq75, zq0a, zq20, splice, setn, zq8p, zq6o, zq7v, zq7h, zq22, zq25, zq5d, zq6l, zq7t, List.length_cons, List.length_nil, Nat.reduceAdd, zq8l, zq8m, zq7i, zq8k, zq1x, nth, zq1t, zq1r, zq8s, zq4u, zq9i, normF, zq6m, zq86, zq89, zq8a, zq87, zq8e, zq8c, zq9x]
   exact ret_rv (vs := [_, _]) r119 rfl rfl fun W hW => hR _ _ ⟨⟨_, rfl⟩, hW.fresh'⟩
  ·refine ⟨4, .toSub (by omega) (by omega) (by omega), ⟨by omega, by omega⟩, ?_⟩
   simp only [Int.reduceBEq, Int.reduceBNe, Int.reduceToNat, Nat.reduceMul, Nat.reduceAdd, Int.reduceLT, Int.reduceLE, Int.reduceGT, Int.reduceGE, ge_iff_le, gt_iff_lt, Int.reduceSub, Int.reduceAdd, decide_true, decide_false, Bool.false_eq_true, Bool.true_eq_false, Bool.not_true, Bool.not_false, reduceCtorEq, false_implies, true_implies, forall_const, true_and, and_true]
   dsimp only [dropL, takeL, zq19, zq18, YK, zq8t, Y_k, zq5g, List.map, zq6s, zq6p, zq21, zq8o, zq6n, Nat.reduceBEq, zq6k, zq7u, zq75, zq0a, zq20, splice, setn, zq8p, zq6o, zq7v, zq7h, zq22, zq25, zq5d, zq6l, zq7t, List.length_cons, List.length_nil, Nat.reduceAdd, zq8l, zq8m, zq7i, zq8k, zq1x, nth, zq1t, zq1r, zq8s, zq4u, zq9i, normF, zq6m, zq86, zq89, zq8a, zq87, zq8e, zq8c, zq9x]
   exact ret_rv (vs := [_, _]) r119 rfl rfl fun W hW => hR _ _ ⟨⟨_, rfl⟩, hW.fresh'⟩
  ·refine ⟨5, .toSub (by omega) (by omega) (by omega), ⟨by omega, by omega⟩, ?_⟩
   simp only [Int.reduceBEq, Int.reduceBNe, Int.reduceToNat, Nat.reduceMul, Nat.reduceAdd, Int.reduceLT, Int.reduceLE, Int.reduceGT, Int.reduceGE, ge_iff_le, gt_iff_lt, Int.reduceSub, Int.reduceAdd, decide_true, decide_false, Bool.false_eq_true, Bool.true_eq_false, Bool.not_true, Bool.not_false, reduceCtorEq, false_implies, true_implies, forall_const, true_and, and_true]
   dsimp only [dropL, takeL, zq19, zq18, YK, zq8t, Y_k, zq5g, List.map, zq6s, zq6p, zq21, zq8o, zq6n, Nat.reduceBEq, zq6k, zq7u, zq75, zq0a, zq20, splice, setn, zq8p, zq6o, zq7v, zq7h, zq22, zq25, zq5d, zq6l, zq7t, List.length_cons, List.length_nil, Nat.reduceAdd, zq8l, zq8m, zq7i, zq8k, zq1x, nth, zq1t, zq1r, zq8s, zq4u, zq9i, normF, zq6m, zq86, zq89, zq8a, zq87, zq8e, zq8c, zq9x]
   exact ret_rv (vs := [_, _]) r119 rfl rfl fun W hW => hR _ _ ⟨⟨_, rfl⟩, hW.fresh'⟩
  ·refine ⟨6, .toSub (by omega) (by omega) (by omega), ⟨by omega, by omega⟩, ?_⟩
   simp only [Int.reduceBEq, Int.reduceBNe, Int.reduceToNat, Nat.reduceMul, Nat.reduceAdd, Int.reduceLT, Int.reduceLE, Int.reduceGT, Int.reduceGE, ge_iff_le, gt_iff_lt, Int.reduceSub, Int.reduceAdd, decide_true, decide_false, Bool.false_eq_true, Bool.true_eq_false, Bool.not_true, Bool.not_false, reduceCtorEq, false_implies, true_implies, forall_const, true_and, and_true]
   dsimp only [dropL, takeL, zq19, zq18, YK, zq8t, Y_k, zq5g, List.map, zq6s, zq6p, zq21, zq8o, zq6n, Nat.reduceBEq, zq6k, zq7u, zq75, zq0a, zq20, splice, setn, zq8p, zq6o, zq7v, zq7h, zq22, zq25, zq5d, zq6l, zq7t, List.length_cons, List.length_nil, Nat.reduceAdd, zq8l, zq8m, zq7i, zq8k, zq1x, nth, zq1t, zq1r, zq8s, zq4u, zq9i, normF, zq6m, zq86, zq89, zq8a, zq87, zq8e, zq8c, zq9x]
   exact ret_rv (vs := [_, _]) r119 rfl rfl fun W hW => hR _ _ ⟨⟨_, rfl⟩, hW.fresh'⟩
  ·refine ⟨0, .toSub (by omega) (by omega) (by omega), ⟨by omega, by omega⟩, ?_⟩
   simp only [Int.reduceBEq, Int.reduceBNe, Int.reduceToNat, Nat.reduceMul, Nat.reduceAdd, Int.reduceLT, Int.reduceLE, Int.reduceGT, Int.reduceGE, ge_iff_le, gt_iff_lt, Int.reduceSub, Int.reduceAdd, decide_true, decide_false, Bool.false_eq_true, Bool.true_eq_false, Bool.not_true, Bool.not_false, reduceCtorEq, false_implies, true_implies, forall_const, true_and, and_true]
   dsimp only [dropL, takeL, zq19, zq18, YK, zq8t, Y_k, zq5g, List.map, zq6s, zq6p, zq21, zq8o, zq6n, Nat.reduceBEq, zq6k, zq7u, zq75, zq0a, zq20, splice, setn, zq8p, zq6o, zq7v, zq7h, zq22, zq25, zq5d, zq6l, zq7t, List.length_cons, List.length_nil, Nat.reduceAdd, zq8l, zq8m, zq7i, zq8k, zq1x, nth, zq1t, zq1r, zq8s, zq4u, zq9i, normF, zq6m, zq86, zq89, zq8a, zq87, zq8e, zq8c, zq9x]
   exact ret_rv (vs := [_, _]) r119 rfl rfl fun W hW => hR _ _ ⟨⟨_, rfl⟩, hW.fresh'⟩
  ·refine ⟨1, .toSub (by omega) (by omega) (by omega), ⟨by omega, by omega⟩, ?_⟩
   simp only [Int.reduceBEq, Int.reduceBNe, Int.reduceToNat, Nat.reduceMul, Nat.reduceAdd, Int.reduceLT, Int.reduceLE, Int.reduceGT, Int.reduceGE, ge_iff_le, gt_iff_lt, Int.reduceSub, Int.reduceAdd, decide_true, decide_false, Bool.false_eq_true, Bool.true_eq_false, Bool.not_true, Bool.not_false, reduceCtorEq, false_implies, true_implies, forall_const, true_and, and_true]
   dsimp only [dropL, takeL, zq19, zq18, YK, zq8t, Y_k, zq5g, List.map, zq6s, zq6p, zq21, zq8o, zq6n, Nat.reduceBEq, zq6k, zq7u, zq75, zq0a, zq20, splice, setn, zq8p, zq6o, zq7v, zq7h, zq22, zq25, zq5d, zq6l, zq7t, List.length_cons, List.length_nil, Nat.reduceAdd, zq8l, zq8m, zq7i, zq8k, zq1x, nth, zq1t, zq1r, zq8s, zq4u, zq9i, normF, zq6m, zq86, zq89, zq8a, zq87, zq8e, zq8c, zq9x]
   exact ret_rv (vs := [_, _]) r119 rfl rfl fun W hW => hR _ _ ⟨⟨_, rfl⟩, hW.fresh'⟩
  ·refine ⟨3, .toSub (by omega) (by omega) (by omega), ⟨by omega, by omega⟩, ?_⟩
   simp only [Int.reduceBEq, Int.reduceBNe, Int.reduceToNat, Nat.reduceMul, Nat.reduceAdd, Int.reduceLT, Int.reduceLE, Int.reduceGT, Int.reduceGE, ge_iff_le, gt_iff_lt, Int.reduceSub, Int.reduceAdd, decide_true, decide_false, Bool.false_eq_true, Bool.true_eq_false, Bool.not_true, Bool.not_false, reduceCtorEq, false_implies, true_implies, forall_const, true_and, and_true]
   dsimp only [dropL, takeL, zq19, zq18, YK, zq8t, Y_k, zq5g, List.map, zq6s, zq6p, zq21, zq8o, zq6n, Nat.reduceBEq, zq6k, zq7u, zq75, zq0a, zq20, splice, setn, zq8p, zq6o, zq7v, zq7h, zq22, zq25, zq5d, zq6l, zq7t, List.length_cons, List.length_nil, Nat.reduceAdd, zq8l, zq8m, zq7i, zq8k, zq1x, nth, zq1t, zq1r, zq8s, zq4u, zq9i, normF, zq6m, zq86, zq89, zq8a, zq87, zq8e, zq8c, zq9x]
   exact ret_rv (vs := [_, _]) r119 rfl rfl fun W hW => hR _ _ ⟨⟨_, rfl⟩, hW.fresh'⟩
  ·refine ⟨4, .toSub (by omega) (by omega) (by omega), ⟨by omega, by omega⟩, ?_⟩
   simp only [Int.reduceBEq, Int.reduceBNe, Int.reduceToNat, Nat.reduceMul, Nat.reduceAdd, Int.reduceLT, Int.reduceLE, Int.reduceGT, Int.reduceGE, ge_iff_le, gt_iff_lt, Int.reduceSub, Int.reduceAdd, decide_true, decide_false, Bool.false_eq_true, Bool.true_eq_false, Bool.not_true, Bool.not_false, reduceCtorEq, false_implies, true_implies, forall_const, true_and, and_true]
   dsimp only [dropL, takeL, zq19, zq18, YK, zq8t, Y_k, zq5g, List.map, zq6s, zq6p, zq21, zq8o, zq6n, Nat.reduceBEq, zq6k, zq7u, zq75, zq0a, zq20, splice, setn, zq8p, zq6o, zq7v, zq7h, zq22, zq25, zq5d, zq6l, zq7t, List.length_cons, List.length_nil, Nat.reduceAdd, zq8l, zq8m, zq7i, zq8k, zq1x, nth, zq1t, zq1r, zq8s, zq4u, zq9i, normF, zq6m, zq86, zq89, zq8a, zq87, zq8e, zq8c, zq9x]
   exact ret_rv (vs := [_, _]) r119 rfl rfl fun W hW => hR _ _ ⟨⟨_, rfl⟩, hW.fresh'⟩
  ·refine ⟨5, .toSub (by omega) (by omega) (by omega), ⟨by omega, by omega⟩, ?_⟩
   simp only [Int.reduceBEq, Int.reduceBNe, Int.reduceToNat, Nat.reduceMul, Nat.reduceAdd, Int.reduceLT, Int.reduceLE, Int.reduceGT, Int.reduceGE, ge_iff_le, gt_iff_lt, Int.reduceSub, Int.reduceAdd, decide_true, decide_false, Bool.false_eq_true, Bool.true_eq_false, Bool.not_true, Bool.not_false, reduceCtorEq, false_implies, true_implies, forall_const, true_and, and_true]
   dsimp only [dropL, takeL, zq19, zq18, YK, zq8t, Y_k, zq5g, List.map, zq6s, zq6p, zq21, zq8o, zq6n, Nat.reduceBEq, zq6k, zq7u, zq75, zq0a, zq20, splice, setn, zq8p, zq6o, zq7v, zq7h, zq22, zq25, zq5d, zq6l, zq7t, List.length_cons, List.length_nil, Nat.reduceAdd, zq8l, zq8m, zq7i, zq8k, zq1x, nth, zq1t, zq1r, zq8s, zq4u, zq9i, normF, zq6m, zq86, zq89, zq8a, zq87, zq8e, zq8c, zq9x]
   exact ret_rv (vs := [_, _]) r119 rfl rfl fun W hW => hR _ _ ⟨⟨_, rfl⟩, hW.fresh'⟩
 | false =>
  have hn : ∀ k : Int, 1 ≤ k → k ≤ 18 → (op == k) = false := by
   intro k h1 h2
   rw [beq_eq_false_iff_ne]
   intro e; subst e; simp [isOp, h1, h2] at ho
  (refine Y_go 600 ?_; dsimp only [X119, numF, Nat.reduceAdd, zq9r, zq9q, Y_k, zq5e, List.length_nil, List.map, zq6s, zq6p, List.nil_append, YK, zq8t, zq4u, zq8p, zq9i, normF, zq6n, Nat.reduceBEq, zq6l, zq6k, zq6m, zq86, zq8a, zq8c, zq87, zq9y, t119n29, T119n29, zq8o, t119n27, T119n27, zq9t, zq50, zq6q, zq04, zq92, zq9b, zq0i, zq9c, zq9s, zq6h, zq8x, YC, t119n0, T119n0, zq5g, zq21, zq7u, zq75, zq0a, dropL, takeL, zq20, splice, setn, zq22, zq25, zq5d, zq7t, List.length_cons, zq8l, zq8m, zq7i, zq8k, zq1x, nth, zq1t, zq1r, zq8s, zq6o, zq89, zq9x, t119n26, T119n26, t119n1, T119n1, zq7v, zq7h, t119n25, T119n25, t119n2, T119n2, t119n24, T119n24, zq9p, zq6f, t119n10, T119n10, zq5h, repL, List.cons_append, zq23, Nat.reduceMul, zq24, zq26, zq8e, t119n9, T119n9, zq4w, zq0e, zq58, zq06, zq0x, zq5c, zq1o, zq1k, t119n8, T119n8, t119n7, T119n7, t119n6, T119n6, t119n5, T119n5, t119n4, T119n4, t119n3, T119n3, t119n23, T119n23, t119n16, T119n16, t119n15, T119n15, t119n14, T119n14, t119n13, T119n13, t119n12, T119n12, t119n11, T119n11, t119n22, T119n22, t119n17, T119n17, t119n21, T119n21, t119n18, T119n18, t119n20, T119n20, t119n19, T119n19, zqa1, t119n28, T119n28])
  intro g
  simp only [hn 1 (by omega) (by omega), hn 2 (by omega) (by omega), hn 3 (by omega) (by omega), hn 4 (by omega) (by omega), hn 5 (by omega) (by omega), hn 6 (by omega) (by omega), hn 7 (by omega) (by omega), hn 8 (by omega) (by omega), hn 9 (by omega) (by omega), hn 10 (by omega) (by omega), hn 11 (by omega) (by omega), hn 12 (by omega) (by omega), hn 13 (by omega) (by omega), hn 14 (by omega) (by omega), hn 15 (by omega) (by omega), hn 16 (by omega) (by omega), hn 17 (by omega) (by omega), hn 18 (by omega) (by omega)]
  simp only [Int.reduceBEq, Int.reduceBNe, Int.reduceToNat, Nat.reduceMul, Nat.reduceAdd, Int.reduceLT, Int.reduceLE, Int.reduceGT, Int.reduceGE, ge_iff_le, gt_iff_lt, Int.reduceSub, Int.reduceAdd, decide_true, decide_false, Bool.false_eq_true, Bool.true_eq_false, Bool.not_true, Bool.not_false, reduceCtorEq, false_implies, true_implies, forall_const, true_and, and_true]
  have e : ∀ c, hasL op c = false := by intro c; simp [hasL, nmL_out ho, Lib.indexByte]
  exact ret_rv (vs := [_, _]) r119 rfl rfl fun W hW => hR _ _ ⟨⟨_, by simp only [hasV, e, ho]; rfl⟩, hW.fresh'⟩
end Go.Proofs.YtlbiogokpadaoaaGreatDoor
namespace Go.Proofs.YtlbiogokpadaoaaGreatDoor
open Go Go.Sx Go.Isa
set_option maxRecDepth 100000
end Go.Proofs.YtlbiogokpadaoaaGreatDoor
namespace Go.Proofs.YtlbiogokpadaoaaGreatDoor
open Go Go.Sx Go.Isa
set_option maxRecDepth 100000
theorem someI {w : World} {A : Option Addr} {l : List In} {i : Nat} (h : RowAt w A (cellsI l)) (hi : i < l.length) : A.isSome = true := h.isSome (j := i * 5) (by rw [cellsI_len]; omega)
end Go.Proofs.YtlbiogokpadaoaaGreatDoor
