/- The document's ShapeOf and shifted. -/
import Derived.Test.YtlbiogokpadaoaaGreatDoorBgIsa1
import Derived.Test.YtlbiogokpadaoaaGreatDoorBgCodeIsa
import Derived.Test.YtlbiogokpadaoaaGreatDoorIsaSpec
import Derived.Test.YtlbiogokpadaoaaGreatDoorSxStill
import Derived.Test.YtlbiogokpadaoaaGreatDoorBgCodeThr
set_option linter.unusedSimpArgs false
set_option linter.unusedVariables false
set_option linter.unnecessarySimpa false
namespace Go.Proofs.YtlbiogokpadaoaaGreatDoor
open Go Go.Sx Go.Isa
set_option maxRecDepth 100000
def hasV (op : Int) (wd : ByteArray) : Value := .agg #[.string wd, .bool (hasL op 65), .bool (hasL op 66), .bool (hasL op 67), .bool (hasL op 73)]
set_option maxHeartbeats 8000000 in
theorem shape119 (op : Int) (w : World) : CallsV Tryz.prog 119 [.int .i64 op] w fun v w' => (∃ wd, v = .tuple #[hasV op wd, .bool (isOp op)]) ∧ Fresh w w' := by
 refine calls_go (keep := K119) (nt := 54) (svs := [.val (.int .i64 op)]) Tryz.func119 x119 n119 (by simp) (by simp [IsL, Is]) fun R hR => ?_
 cases ho : isOp op with
 | true =>
  rcases isOp_cases ho with h | h | h | h | h | h | h | h | h | h | h | h | h | h | h | h | h | h <;> subst h
  all_goals (refine Y_go 600 ?_; dsimp only [X119, numF, Nat.reduceAdd, zq9r, zq9q, Y_k, zq5e, List.length_nil, List.map, zq6s, zq6p, List.nil_append, YK, zq8t, zq4u, zq8p, zq9i, normF, zq6n, Nat.reduceBEq, zq6l, zq6k, zq6m, zq86, zq8a, zq8c, zq87, zq9y, t119n29, T119n29, zq8o, t119n27, T119n27, zq9t, zq50, zq6q, zq04, zq92, zq9b, zq0i, zq9c, zq9s, zq6h, zq8x, YC, t119n0, T119n0, zq5g, zq21, zq7u, zq75, zq0a, dropL, takeL, zq20, splice, setn, zq22, zq25, zq5d, zq7t, List.length_cons, zq8l, zq8m, zq7i, zq8k, zq1x, nth, zq1t, zq1r, zq8s, zq6o, zq89, zq9x, t119n26, T119n26, t119n1, T119n1, zq7v, zq7h, t119n25, T119n25, t119n2, T119n2, t119n24, T119n24, zq9p, zq6f, t119n10, T119n10, zq5h, repL, List.cons_append, zq23, Nat.reduceMul, zq24, zq26, zq8e, t119n9, T119n9, zq4w, zq0e, zq58, zq06, zq0x, zq5c, zq1o, zq1k, t119n8, T119n8, t119n7, T119n7, t119n6, T119n6, t119n5, T119n5, t119n4, T119n4, t119n3, T119n3, t119n23, T119n23, t119n16, T119n16, t119n15, T119n15, t119n14, T119n14, t119n13, T119n13, t119n12, T119n12, t119n11, T119n11, t119n22, T119n22, t119n17, T119n17, t119n21, T119n21, t119n18, T119n18, t119n20, T119n20, t119n19, T119n19, zqa1, t119n28, T119n28])
  all_goals intro g
  all_goals simp only [Int.reduceBEq, Int.reduceBNe, Int.reduceToNat, Nat.reduceMul, Nat.reduceAdd, Int.reduceLT, Int.reduceLE, Int.reduceGT, Int.reduceGE, ge_iff_le, gt_iff_lt, Int.reduceSub, Int.reduceAdd, decide_true, decide_false, Bool.false_eq_true, Bool.true_eq_false, Bool.not_true, Bool.not_false, reduceCtorEq, false_implies, true_implies, forall_const, true_and, and_true]
  all_goals first | done | (exact ret_rv (vs := [_, _]) r119 rfl rfl fun W hW => hR _ _ ⟨⟨_, rfl⟩, hW.fresh'⟩) | skip
  all_goals intro g2
  ·refine ⟨0, .toSub (by omega) (by omega) (by omega), ⟨by omega, by omega⟩, ?_⟩
   simp only [Int.reduceBEq, Int.reduceBNe, Int.reduceToNat, Nat.reduceMul, Nat.reduceAdd, Int.reduceLT, Int.reduceLE, Int.reduceGT, Int.reduceGE, ge_iff_le, gt_iff_lt, Int.reduceSub, Int.reduceAdd, decide_true, decide_false, Bool.false_eq_true, Bool.true_eq_false, Bool.not_true, Bool.not_false, reduceCtorEq, false_implies, true_implies, forall_const, true_and, and_true]
   dsimp only [dropL, takeL, zq19, zq18, YK, zq8t, Y_k, zq5g, List.map, zq6s, zq6p, zq21, zq8o, zq6n, Nat.reduceBEq, zq6k, zq7u, zq75, zq0a, zq20, splice, setn, zq8p, zq6o, zq7v, zq7h, zq22, zq25, zq5d, zq6l, zq7t, List.length_cons, List.length_nil, Nat.reduceAdd, zq8l, zq8m, zq7i, zq8k, zq1x, nth, zq1t, zq1r, zq8s, zq4u, zq9i, normF, zq6m, zq86, zq89, zq8a, zq87, zq8e, zq8c, zq9x]
   exact ret_rv (vs := [_, _]) r119 rfl rfl fun W hW => hR _ _ ⟨⟨_, rfl⟩, hW.fresh'⟩
  ·refine ⟨1, .toSub (by omega) (by omega) (by omega), ⟨by omega, by omega⟩, ?_⟩
   simp only [Int.reduceBEq, Int.reduceBNe, Int.reduceToNat, Nat.reduceMul, Nat.reduceAdd, Int.reduceLT, Int.reduceLE, Int.reduceGT, Int.reduceGE, ge_iff_le, gt_iff_lt, Int.reduceSub, Int.reduceAdd, decide_true, decide_false, Bool.false_eq_true, Bool.true_eq_false, Bool.not_true, Bool.not_false, reduceCtorEq, false_implies, true_implies, forall_const, true_and, and_true]
   dsimp only [dropL, takeL, zq19, zq18, YK, zq8t, Y_k, zq5g, List.map, zq6s, zq6p, zq21, zq8o, zq6n, Nat.reduceBEq, zq6k, zq7u, zq75, zq0a, zq20, splice, setn, zq8p, zq6o, zq7v, zq7h, zq22, zq25, zq5d, zq6l, zq7t, List.length_cons, List.length_nil, Nat.reduceAdd, zq8l, zq8m, zq7i, zq8k, zq1x, nth, zq1t, zq1r, zq8s, zq4u, zq9i, normF, zq6m, zq86, zq89, zq8a, zq87, zq8e, zq8c, zq9x]
   exact ret_rv (vs := [_, _]) r119 rfl rfl fun W hW => hR _ _ ⟨⟨_, rfl⟩, hW.fresh'⟩
  ·refine ⟨2, .toSub (by omega) (by omega) (by omega), ⟨by omega, by omega⟩, ?_⟩
   simp only [Int.reduceBEq, Int.reduceBNe, Int.reduceToNat, Nat.reduceMul, Nat.reduceAdd, Int.reduceLT, Int.reduceLE, Int.reduceGT, Int.reduceGE, ge_iff_le, gt_iff_lt, Int.reduceSub, Int.reduceAdd, decide_true, decide_false, Bool.false_eq_true, Bool.true_eq_false, Bool.not_true, Bool.not_false, reduceCtorEq, false_implies, true_implies, forall_const, true_and, and_true]
   dsimp only [dropL, takeL, zq19, zq18, YK, zq8t, Y_k, zq5g, List.map, zq6s, zq6p, zq21, zq8o, zq6n, Nat.reduceBEq, zq6k, zq7u, zq75, zq0a, zq20, splice, setn, zq8p, zq6o, zq7v, zq7h, zq22, zq25, zq5d, zq6l, zq7t, List.length_cons, List.length_nil, Nat.reduceAdd, zq8l, zq8m, zq7i, zq8k, zq1x, nth, zq1t, zq1r, zq8s, zq4u, zq9i, normF, zq6m, zq86, zq89, zq8a, zq87, zq8e, zq8c, zq9x]
   exact ret_rv (vs := [_, _]) r119 rfl rfl fun W hW => hR _ _ ⟨⟨_, rfl⟩, hW.fresh'⟩
  ·refine ⟨3, .toSub (by omega) (by omega) (by omega), ⟨by omega, by omega⟩, ?_⟩
   simp only [Int.reduceBEq, Int.reduceBNe, Int.reduceToNat, Nat.reduceMul, Nat.reduceAdd, Int.reduceLT, Int.reduceLE, Int.reduceGT, Int.reduceGE, ge_iff_le, gt_iff_lt, Int.reduceSub, Int.reduceAdd, decide_true, decide_false, Bool.false_eq_true, Bool.true_eq_false, Bool.not_true, Bool.not_false, reduceCtorEq, false_implies, true_implies, forall_const, true_and, and_true]
   dsimp only [dropL, takeL, zq19, zq18, YK, zq8t, Y_k, zq5g, List.map, zq6s, zq6p, zq21, zq8o, zq6n, Nat.reduceBEq, zq6k, zq7u, zq75, zq0a, zq20, splice, setn, zq8p, zq6o, zq7v, zq7h, zq22, zq25, zq5d, zq6l, zq7t, List.length_cons, List.length_nil, Nat.reduceAdd, zq8l, zq8m, zq7i, zq8k, zq1x, nth, zq1t, zq1r, zq8s, zq4u, zq9i, normF, zq6m, zq86, zq89, zq8a, zq87, zq8e, zq8c, zq9x]
   exact ret_rv (vs := [_, _]) r119 rfl rfl fun W hW => hR _ _ ⟨⟨_, rfl⟩, hW.fresh'⟩
  ·refine ⟨4, .toSub (by omega) (by omega) (by omega), ⟨by omega, by omega⟩, ?_⟩
   simp only [Int.reduceBEq, Int.reduceBNe, Int.reduceToNat, Nat.reduceMul, Nat.reduceAdd, Int.reduceLT, Int.reduceLE, Int.reduceGT, Int.reduceGE, ge_iff_le, gt_iff_lt, Int.reduceSub, Int.reduceAdd, decide_true, decide_false, Bool.false_eq_true, Bool.true_eq_false, Bool.not_true, Bool.not_false, reduceCtorEq, false_implies, true_implies, forall_const, true_and, and_true]
   dsimp only [dropL, takeL, zq19, zq18, YK, zq8t, Y_k, zq5g, List.map, zq6s, zq6p, zq21, zq8o, zq6n, Nat.reduceBEq, zq6k, zq7u, zq75, zq0a, zq20, splice, setn, zq8p, zq6o, zq7v, zq7h, zq22, zq25, zq5d, zq6l, zq7t, List.length_cons, List.length_nil, Nat.reduceAdd, zq8l, zq8m, zq7i, zq8k, zq1x, nth, zq1t, zq1r, zq8s, zq4u, zq9i, normF, zq6m, zq86, zq89, zq8a, zq87, zq8e, zq8c, zq9x]
   exact ret_rv (vs := [_, _]) r119 rfl rfl fun W hW => hR _ _ ⟨⟨_, rfl⟩, hW.fresh'⟩
  ·refine ⟨5, .toSub (by omega) (by omega) (by omega), ⟨by omega, by omega⟩, ?_⟩
   simp only [Int.reduceBEq, Int.reduceBNe, Int.reduceToNat, Nat.reduceMul, Nat.reduceAdd, Int.reduceLT, Int.reduceLE, Int.reduceGT, Int.reduceGE, ge_iff_le, gt_iff_lt, Int.reduceSub, Int.reduceAdd, decide_true, decide_false, Bool.false_eq_true, Bool.true_eq_false, Bool.not_true, Bool.not_false, reduceCtorEq, false_implies, true_implies, forall_const, true_and, and_true]
   dsimp only [dropL, takeL, zq19, zq18, YK, zq8t, Y_k, zq5g, List.map, zq6s, zq6p, zq21, zq8o, zq6n, Nat.reduceBEq, zq6k, zq7u, zq75, zq0a, zq20, splice, setn, zq8p, zq6o, zq7v, zq7h, zq22, zq25, zq5d, zq6l, zq7t, List.length_cons, List.length_nil, Nat.reduceAdd, zq8l, zq8m, zq7i, zq8k, zq1x, nth, zq1t, zq1r, zq8s, zq4u, zq9i, normF, zq6m, zq86, zq89, zq8a, zq87, zq8e, zq8c, zq9x]
   exact ret_rv (vs := [_, _]) r119 rfl rfl fun W hW => hR _ _ ⟨⟨_, rfl⟩, hW.fresh'⟩
  ·refine ⟨6, .toSub (by omega) (by omega) (by omega), ⟨by omega, by omega⟩, ?_⟩
   simp only [Int.reduceBEq, Int.reduceBNe, Int.reduceToNat, Nat.reduceMul, Nat.reduceAdd, Int.reduceLT, Int.reduceLE, Int.reduceGT, Int.reduceGE, ge_iff_le, gt_iff_lt, Int.reduceSub, Int.reduceAdd, decide_true, decide_false, Bool.false_eq_true, Bool.true_eq_false, Bool.not_true, Bool.not_false, reduceCtorEq, false_implies, true_implies, forall_const, true_and, and_true]
   dsimp only [dropL, takeL, zq19, zq18, YK, zq8t, Y_k, zq5g, List.map, zq6s, zq6p, zq21, zq8o, zq6n, Nat.reduceBEq, zq6k, zq7u, zq75, zq0a, zq20, splice, setn, zq8p, zq6o, zq7v, zq7h, zq22, zq25, zq5d, zq6l, zq7t, List.length_cons, List.length_nil, Nat.reduceAdd, zq8l, zq8m, zq7i, zq8k, zq1x, nth, zq1t, zq1r, zq8s, zq4u, zq9i, normF, zq6m, zq86, zq89, zq8a, zq87, zq8e, zq8c, zq9x]
   exact ret_rv (vs := [_, _]) r119 rfl rfl fun W hW => hR _ _ ⟨⟨_, rfl⟩, hW.fresh'⟩
  ·refine ⟨0, .toSub (by omega) (by omega) (by omega), ⟨by omega, by omega⟩, ?_⟩
   simp only [Int.reduceBEq, Int.reduceBNe, Int.reduceToNat, Nat.reduceMul, Nat.reduceAdd, Int.reduceLT, Int.reduceLE, Int.reduceGT, Int.reduceGE, ge_iff_le, gt_iff_lt, Int.reduceSub, Int.reduceAdd, decide_true, decide_false, Bool.false_eq_true, Bool.true_eq_false, Bool.not_true, Bool.not_false, reduceCtorEq, false_implies, true_implies, forall_const, true_and, and_true]
   dsimp only [dropL, takeL, zq19, zq18, YK, zq8t, Y_k, zq5g, List.map, zq6s, zq6p, zq21, zq8o, zq6n, Nat.reduceBEq, zq6k, zq7u, zq75, zq0a, zq20, splice, setn, zq8p, zq6o, zq7v, zq7h, zq22, zq25, zq5d, zq6l, zq7t, List.length_cons, List.length_nil, Nat.reduceAdd, zq8l, zq8m, zq7i, zq8k, zq1x, nth, zq1t, zq1r, zq8s, zq4u, zq9i, normF, zq6m, zq86, zq89, zq8a, zq87, zq8e, zq8c, zq9x]
   exact ret_rv (vs := [_, _]) r119 rfl rfl fun W hW => hR _ _ ⟨⟨_, rfl⟩, hW.fresh'⟩
  ·refine ⟨1, .toSub (by omega) (by omega) (by omega), ⟨by omega, by omega⟩, ?_⟩
   simp only [Int.reduceBEq, Int.reduceBNe, Int.reduceToNat, Nat.reduceMul, Nat.reduceAdd, Int.reduceLT, Int.reduceLE, Int.reduceGT, Int.reduceGE, ge_iff_le, gt_iff_lt, Int.reduceSub, Int.reduceAdd, decide_true, decide_false, Bool.false_eq_true, Bool.true_eq_false, Bool.not_true, Bool.not_false, reduceCtorEq, false_implies, true_implies, forall_const, true_and, and_true]
   dsimp only [dropL, takeL, zq19, zq18, YK, zq8t, Y_k, zq5g, List.map, zq6s, zq6p, zq21, zq8o, zq6n, Nat.reduceBEq, zq6k, zq7u, zq75, zq0a, zq20, splice, setn, zq8p, zq6o, zq7v, zq7h, zq22, zq25, zq5d, zq6l, zq7t, List.length_cons, List.length_nil, Nat.reduceAdd, zq8l, zq8m, zq7i, zq8k, zq1x, nth, zq1t, zq1r, zq8s, zq4u, zq9i, normF, zq6m, zq86, zq89, zq8a, zq87, zq8e, zq8c, zq9x]
   exact ret_rv (vs := [_, _]) r119 rfl rfl fun W hW => hR _ _ ⟨⟨_, rfl⟩, hW.fresh'⟩
  ·refine ⟨3, .toSub (by omega) (by omega) (by omega), ⟨by omega, by omega⟩, ?_⟩
   simp only [Int.reduceBEq, Int.reduceBNe, Int.reduceToNat, Nat.reduceMul, Nat.reduceAdd, Int.reduceLT, Int.reduceLE, Int.reduceGT, Int.reduceGE, ge_iff_le, gt_iff_lt, Int.reduceSub, Int.reduceAdd, decide_true, decide_false, Bool.false_eq_true, Bool.true_eq_false, Bool.not_true, Bool.not_false, reduceCtorEq, false_implies, true_implies, forall_const, true_and, and_true]
   dsimp only [dropL, takeL, zq19, zq18, YK, zq8t, Y_k, zq5g, List.map, zq6s, zq6p, zq21, zq8o, zq6n, Nat.reduceBEq, zq6k, zq7u, zq75, zq0a, zq20, splice, setn, zq8p, zq6o, zq7v, zq7h, zq22, zq25, zq5d, zq6l, zq7t, List.length_cons, List.length_nil, Nat.reduceAdd, zq8l, zq8m, zq7i, zq8k, zq1x, nth, zq1t, zq1r, zq8s, zq4u, zq9i, normF, zq6m, zq86, zq89, zq8a, zq87, zq8e, zq8c, zq9x]
   exact ret_rv (vs := [_, _]) r119 rfl rfl fun W hW => hR _ _ ⟨⟨_, rfl⟩, hW.fresh'⟩
  ·refine ⟨4, .toSub (by omega) (by omega) (by omega), ⟨by omega, by omega⟩, ?_⟩
   simp only [Int.reduceBEq, Int.reduceBNe, Int.reduceToNat, Nat.reduceMul, Nat.reduceAdd, Int.reduceLT, Int.reduceLE, Int.reduceGT, Int.reduceGE, ge_iff_le, gt_iff_lt, Int.reduceSub, Int.reduceAdd, decide_true, decide_false, Bool.false_eq_true, Bool.true_eq_false, Bool.not_true, Bool.not_false, reduceCtorEq, false_implies, true_implies, forall_const, true_and, and_true]
   dsimp only [dropL, takeL, zq19, zq18, YK, zq8t, Y_k, zq5g, List.map, zq6s, zq6p, zq21, zq8o, zq6n, Nat.reduceBEq, zq6k, zq7u, zq75, zq0a, zq20, splice, setn, zq8p, zq6o, zq7v, zq7h, zq22, zq25, zq5d, zq6l, zq7t, List.length_cons, List.length_nil, Nat.reduceAdd, zq8l, zq8m, zq7i, zq8k, zq1x, nth, zq1t, zq1r, zq8s, zq4u, zq9i, normF, zq6m, zq86, zq89, zq8a, zq87, zq8e, zq8c, zq9x]
   exact ret_rv (vs := [_, _]) r119 rfl rfl fun W hW => hR _ _ ⟨⟨_, rfl⟩, hW.fresh'⟩
  ·refine ⟨5, .toSub (by omega) (by omega) (by omega), ⟨by omega, by omega⟩, ?_⟩
   simp only [Int.reduceBEq, Int.reduceBNe, Int.reduceToNat, Nat.reduceMul, Nat.reduceAdd, Int.reduceLT, Int.reduceLE, Int.reduceGT, Int.reduceGE, ge_iff_le, gt_iff_lt, Int.reduceSub, Int.reduceAdd, decide_true, decide_false, Bool.false_eq_true, Bool.true_eq_false, Bool.not_true, Bool.not_false, reduceCtorEq, false_implies, true_implies, forall_const, true_and, and_true]
   dsimp only [dropL, takeL, zq19, zq18, YK, zq8t, Y_k, zq5g, List.map, zq6s, zq6p, zq21, zq8o, zq6n, Nat.reduceBEq, zq6k, zq7u, zq75, zq0a, zq20, splice, setn, zq8p, zq6o, zq7v, zq7h, zq22, zq25, zq5d, zq6l, zq7t, List.length_cons, List.length_nil, Nat.reduceAdd, zq8l, zq8m, zq7i, zq8k, zq1x, nth, zq1t, zq1r, zq8s, zq4u, zq9i, normF, zq6m, zq86, zq89, zq8a, zq87, zq8e, zq8c, zq9x]
   exact ret_rv (vs := [_, _]) r119 rfl rfl fun W hW => hR _ _ ⟨⟨_, rfl⟩, hW.fresh'⟩
 | false =>
  have hn : ∀ k : Int, 1 ≤ k → k ≤ 18 → (op == k) = false := by
   intro k h1 h2
   rw [beq_eq_false_iff_ne]
   intro e; subst e; simp [isOp, h1, h2] at ho
  (refine Y_go 600 ?_; dsimp only [X119, numF, Nat.reduceAdd, zq9r, zq9q, Y_k, zq5e, List.length_nil, List.map, zq6s, zq6p, List.nil_append, YK, zq8t, zq4u, zq8p, zq9i, normF, zq6n, Nat.reduceBEq, zq6l, zq6k, zq6m, zq86, zq8a, zq8c, zq87, zq9y, t119n29, T119n29, zq8o, t119n27, T119n27, zq9t, zq50, zq6q, zq04, zq92, zq9b, zq0i, zq9c, zq9s, zq6h, zq8x, YC, t119n0, T119n0, zq5g, zq21, zq7u, zq75, zq0a, dropL, takeL, zq20, splice, setn, zq22, zq25, zq5d, zq7t, List.length_cons, zq8l, zq8m, zq7i, zq8k, zq1x, nth, zq1t, zq1r, zq8s, zq6o, zq89, zq9x, t119n26, T119n26, t119n1, T119n1, zq7v, zq7h, t119n25, T119n25, t119n2, T119n2, t119n24, T119n24, zq9p, zq6f, t119n10, T119n10, zq5h, repL, List.cons_append, zq23, Nat.reduceMul, zq24, zq26, zq8e, t119n9, T119n9, zq4w, zq0e, zq58, zq06, zq0x, zq5c, zq1o, zq1k, t119n8, T119n8, t119n7, T119n7, t119n6, T119n6, t119n5, T119n5, t119n4, T119n4, t119n3, T119n3, t119n23, T119n23, t119n16, T119n16, t119n15, T119n15, t119n14, T119n14, t119n13, T119n13, t119n12, T119n12, t119n11, T119n11, t119n22, T119n22, t119n17, T119n17, t119n21, T119n21, t119n18, T119n18, t119n20, T119n20, t119n19, T119n19, zqa1, t119n28, T119n28])
  intro g
  simp only [hn 1 (by omega) (by omega), hn 2 (by omega) (by omega), hn 3 (by omega) (by omega), hn 4 (by omega) (by omega), hn 5 (by omega) (by omega), hn 6 (by omega) (by omega), hn 7 (by omega) (by omega), hn 8 (by omega) (by omega), hn 9 (by omega) (by omega), hn 10 (by omega) (by omega), hn 11 (by omega) (by omega), hn 12 (by omega) (by omega), hn 13 (by omega) (by omega), hn 14 (by omega) (by omega), hn 15 (by omega) (by omega), hn 16 (by omega) (by omega), hn 17 (by omega) (by omega), hn 18 (by omega) (by omega)]
  simp only [Int.reduceBEq, Int.reduceBNe, Int.reduceToNat, Nat.reduceMul, Nat.reduceAdd, Int.reduceLT, Int.reduceLE, Int.reduceGT, Int.reduceGE, ge_iff_le, gt_iff_lt, Int.reduceSub, Int.reduceAdd, decide_true, decide_false, Bool.false_eq_true, Bool.true_eq_false, Bool.not_true, Bool.not_false, reduceCtorEq, false_implies, true_implies, forall_const, true_and, and_true]
  have e : ∀ c, hasL op c = false := by intro c; simp [hasL, nmL_out ho, Lib.indexByte]
  exact ret_rv (vs := [_, _]) r119 rfl rfl fun W hW => hR _ _ ⟨⟨_, by simp only [hasV, e, ho]; rfl⟩, hW.fresh'⟩
end Go.Proofs.YtlbiogokpadaoaaGreatDoor
namespace Go.Proofs.YtlbiogokpadaoaaGreatDoor
open Go Go.Sx Go.Isa
set_option maxRecDepth 100000
theorem legal90 (x : In) (w : World) : CallsV Tryz.prog 90 [In.val x] w fun v w' => v = .bool (legalB x) ∧ Fresh w w' := by
 refine calls_go (keep := K90) (nt := 42) (svs := [.agg (In.sv x)]) Tryz.func90 x90 n90 (by simp) (by simp only [IsL]; exact ⟨_, _, In.is _ x, rfl, rfl⟩) fun R hR => ?_
 (refine Y_go 600 ?_; dsimp only [X90, In.sv, numF, Nat.reduceAdd, zq9r, zq9q, Y_k, zq5f, zq8o, zq6n, Nat.reduceBEq, zq6k, zq7t, List.length_cons, List.length_nil, zq8l, zq73, zq8m, zq8k, zq0a, zq1z, List.nil_append, YK, zq8t, zq4u, zq8p, zq6p, zq9i, normF, zq6l, zq6m, zq86, zq8a, zq8c, zq88, zq9y, t90n1, T90n1, zq5a, zq14, Nat.add_zero, zq5c, zq1o, nth, zq1k, dropL, takeL, zq19, zq18, zq9j])
 intro g
 refine call_val (vs := [.int .i64 x.op]) rfl (fun W hW => shape119 x.op W) fun v ⟨wd, hv⟩ => ⟨.tup [.agg [.val (.string wd), .val (.bool (hasL x.op 65)), .val (.bool (hasL x.op 66)), .val (.bool (hasL x.op 67)), .val (.bool (hasL x.op 73))], .val (.bool (isOp x.op))], by rw [hv]; simp [Is, IsL, hasV], ?_⟩
 (refine Y_go 600 ?_; dsimp only [zq8t, Y_k, zq4u, zq8o, zq6n, Nat.reduceBEq, zq6k, YK, zq5j, zq2f, nth, zq2e, zq6l, zq5e, List.length_cons, List.length_nil, Nat.reduceAdd, List.map, zq6s, zq6p, List.cons_append, List.nil_append, zq5d, zq7t, zq8l, zq75, zq8m, zq7g, zq8k, zq0a, zq1x, zq1t, dropL, takeL, zq1r, splice, setn, zq8s, zq9i, normF, zq87, zq8c, zq8a, zq88, zq9y, t90n0, T90n0, zq9r, zq9q, Y_gk, zq6d, YR, zq5a, zq14, zq69, zq5c, zq1o, zq1k, zq19, zq18, zq53, zq0o, zq6e, YS, zq6a, zq9l, zq4v, zq8p, zq6o, zq0b, zq89, zq9x, zq6c, YG, zq6b, zq03, zq0c])
 intro g2
 have fin : ∀ (b : Bool) F H, legalB x = b → denAll H F [2] = some [.bool b] → RetG (cxOf Tryz.prog Tryz.f90 K90 T90 R) ⟨w, w.heap.size, [], 42, []⟩ { F := F, H := H } := by
  intro b F H hb hd
  refine ret_rule (vs := [.bool b]) r90 rfl hd fun W hW => hR _ _ ⟨by rw [hb]; rfl, hW.fresh'⟩
 refine ⟨fun h0 => ?_, fun h0 => ?_⟩
 rotate_left
 ·exact fin false _ _ (by simp [legalB, h0]) rfl
 ·refine ⟨fun h1 => ?_, fun h1 => ?_⟩
  ·refine ⟨fun h2 => ?_, fun h2 => ?_⟩
   ·refine ⟨fun h3 => ?_, fun h3 => ?_⟩
    ·exact fin true _ _ (by simp_all [legalB]) rfl
    ·refine call_val (vs := [.int .i64 x.c]) rfl (fun W hW => reg120 x.c W) fun v hv => ⟨.val (.bool (isReg x.c)), by rw [hv]; simp [Is], ?_⟩
     (refine Y_go 600 ?_; dsimp only [zq8t, Y_gk, zq6n, Nat.reduceBEq, zq6l, zq6k, zq69, YR, zq4v, zq8p, zq6o, zq8o, zq0c, YK, Y_k, zq6p, zq0b, zq4u, zq9i, normF, zq87, zq8c, zq88, zq9x])
     exact fin (isReg x.c) _ _ (by simp_all [legalB]) rfl
   ·refine call_val (vs := [.int .i64 x.b]) rfl (fun W hW => reg120 x.b W) fun v hv => ⟨.val (.bool (isReg x.b)), by rw [hv]; simp [Is], ?_⟩
    (refine Y_go 600 ?_; dsimp only [zq8t, Y_gk, zq6n, Nat.reduceBEq, zq6l, zq6k, zq69, YR, zq4v, zq8p, zq6o, zq8o, zq0c, YK, Y_k, zq6p, zq0b, zq4u, zq6d, zq5a, zq14, Nat.reduceAdd, zq5c, zq1o, nth, zq1k, List.length_cons, List.length_nil, dropL, takeL, zq19, zq18, zq53, zq0o, zq6e, YS, zq6a, zq9l, zq9i, normF, zq87, zq8c, zq89, zq88, zq9x, zq6c, YG, zq6b, zq03, zq8a])
    refine ⟨fun e2 => ?_, fun e2 => ?_⟩
    ·refine ⟨fun h3 => ?_, fun h3 => ?_⟩
     ·exact fin true _ _ (by simp_all [legalB]) rfl
     ·refine call_val (vs := [.int .i64 x.c]) rfl (fun W hW => reg120 x.c W) fun v hv => ⟨.val (.bool (isReg x.c)), by rw [hv]; simp [Is], ?_⟩
      (refine Y_go 600 ?_; dsimp only [zq8t, Y_gk, zq6n, Nat.reduceBEq, zq6l, zq6k, zq69, YR, zq4v, zq8p, zq6o, zq8o, zq0c, YK, Y_k, zq6p, zq0b, zq4u, zq9i, normF, zq87, zq8c, zq88, zq9x])
      exact fin (isReg x.c) _ _ (by simp_all [legalB]) rfl
    ·exact fin false _ _ (by simp_all [legalB]) rfl
  ·refine call_val (vs := [.int .i64 x.a]) rfl (fun W hW => reg120 x.a W) fun v hv => ⟨.val (.bool (isReg x.a)), by rw [hv]; simp [Is], ?_⟩
   (refine Y_go 600 ?_; dsimp only [zq8t, Y_gk, zq6n, Nat.reduceBEq, zq6l, zq6k, zq69, YR, zq4v, zq8p, zq6o, zq8o, zq0c, YK, Y_k, zq6p, zq0b, zq4u, zq6d, zq5a, zq14, Nat.reduceAdd, zq5c, zq1o, nth, zq1k, List.length_cons, List.length_nil, dropL, takeL, zq19, zq18, zq53, zq0o, zq6e, YS, zq6a, zq9l, zq9i, normF, zq87, zq8c, zq89, zq88, zq9x, zq6c, YG, zq6b, zq03, zq8a])
   refine ⟨fun e1 => ?_, fun e1 => ?_⟩
   ·refine ⟨fun h2 => ?_, fun h2 => ?_⟩
    ·refine ⟨fun h3 => ?_, fun h3 => ?_⟩
     ·exact fin true _ _ (by simp_all [legalB]) rfl
     ·refine call_val (vs := [.int .i64 x.c]) rfl (fun W hW => reg120 x.c W) fun v hv => ⟨.val (.bool (isReg x.c)), by rw [hv]; simp [Is], ?_⟩
      (refine Y_go 600 ?_; dsimp only [zq8t, Y_gk, zq6n, Nat.reduceBEq, zq6l, zq6k, zq69, YR, zq4v, zq8p, zq6o, zq8o, zq0c, YK, Y_k, zq6p, zq0b, zq4u, zq9i, normF, zq87, zq8c, zq88, zq9x])
      exact fin (isReg x.c) _ _ (by simp_all [legalB]) rfl
    ·refine call_val (vs := [.int .i64 x.b]) rfl (fun W hW => reg120 x.b W) fun v hv => ⟨.val (.bool (isReg x.b)), by rw [hv]; simp [Is], ?_⟩
     (refine Y_go 600 ?_; dsimp only [zq8t, Y_gk, zq6n, Nat.reduceBEq, zq6l, zq6k, zq69, YR, zq4v, zq8p, zq6o, zq8o, zq0c, YK, Y_k, zq6p, zq0b, zq4u, zq6d, zq5a, zq14, Nat.reduceAdd, zq5c, zq1o, nth, zq1k, List.length_cons, List.length_nil, dropL, takeL, zq19, zq18, zq53, zq0o, zq6e, YS, zq6a, zq9l, zq9i, normF, zq87, zq8c, zq89, zq88, zq9x, zq6c, YG, zq6b, zq03, zq8a])
     refine ⟨fun e2 => ?_, fun e2 => ?_⟩
     ·refine ⟨fun h3 => ?_, fun h3 => ?_⟩
      ·exact fin true _ _ (by simp_all [legalB]) rfl
      ·refine call_val (vs := [.int .i64 x.c]) rfl (fun W hW => reg120 x.c W) fun v hv => ⟨.val (.bool (isReg x.c)), by rw [hv]; simp [Is], ?_⟩
       (refine Y_go 600 ?_; dsimp only [zq8t, Y_gk, zq6n, Nat.reduceBEq, zq6l, zq6k, zq69, YR, zq4v, zq8p, zq6o, zq8o, zq0c, YK, Y_k, zq6p, zq0b, zq4u, zq9i, normF, zq87, zq8c, zq88, zq9x])
       exact fin (isReg x.c) _ _ (by simp_all [legalB]) rfl
     ·exact fin false _ _ (by simp_all [legalB]) rfl
   ·exact fin false _ _ (by simp_all [legalB]) rfl
end Go.Proofs.YtlbiogokpadaoaaGreatDoor
namespace Go.Proofs.YtlbiogokpadaoaaGreatDoor
open Go Go.Sx Go.Isa
set_option maxRecDepth 100000
theorem goes84 (x : In) (w : World) (hG : ShAt w) : CallsV Tryz.prog 84 [In.val x] w fun v w' => v = .tuple #[.bool (goK x == 1), .bool (goK x == 2)] ∧ Fresh w w' := by
 refine calls_go (keep := K84) (nt := 28) (svs := [.agg (In.sv x)]) Tryz.func84 x84 n84 (by simp) (by simp only [IsL]; exact ⟨_, _, In.is _ x, rfl, rfl⟩) fun R hR => ?_
 (refine Y_go 600 ?_; dsimp only [X84, In.sv, numF, Nat.reduceAdd, zq9r, zq9q, Y_k, zq5f, zq8o, zq6n, Nat.reduceBEq, zq6k, zq7t, List.length_cons, List.length_nil, zq8l, zq73, zq8m, zq8k, zq0a, zq1z, List.nil_append, YK, zq8t, zq4u, zq8p, zq6p, zq9i, normF, zq6l, zq6m, zq86, zq8a, zq8c, zq88, zq9y, t84n2, T84n2, zq5c, zq1o, nth, zq1k, dropL, takeL, zq19, zq17, zq9j])
 intro g
 refine call_val (vs := [In.val x]) rfl (fun W hW => legal21 x W (hG.keep hW.fresh')) fun v hv => ⟨.val (.bool (legalB x)), by rw [hv]; simp [Is], ?_⟩
 (refine Y_go 600 ?_; dsimp only [zq8t, Y_k, zq53, zq8o, zq6n, Nat.reduceBEq, zq6k, zq0o, YK, zq4u, Y_gk, zq6e, YS, zq6l, zq6a, zq4v, zq8p, zq6o, zq0b, zq9i, normF, zq89, zq8a, zq8c, zq88, zq9s, zq6f, YC, zq9y, t84n0, T84n0, zq9r, zq9q, zq6p, zq9x, YR, zq5a, zq14, Nat.reduceAdd, zq6c, zq5c, zq1o, nth, zq1k, List.length_cons, List.length_nil, dropL, takeL, zq19, zq18, zq50, zq6q, zq04, zq92, zq9b, zq0i, zq9e, zq0c, zq9g, zq87, zq6h, zq8x, zq9p, t84n1, T84n1, Nat.add_zero, zq9c, zq9h, zq6d, zq69, zq9f, zq6b])
 have done : ∀ s b1 b2, denAll s.H s.F [2, 3] = some [.bool b1, .bool b2] → b1 = (goK x == 1) → b2 = (goK x == 2) → RetG (cxOf Tryz.prog Tryz.f84 K84 T84 R) ⟨w, w.heap.size, [], 28, []⟩ s := fun s b1 b2 hs h1 h2 =>
  ret_rule (vs := [.bool b1, .bool b2]) r84 rfl hs fun W hW => hR _ _ ⟨by rw [h1, h2]; rfl, hW.fresh'⟩
 have none' : ¬ (legalB x = true ∧ 0 ≤ x.imm ∧ x.imm ≤ 1024) → ∀ s, denAll s.H s.F [2, 3] = some [.bool false, .bool false] → RetG (cxOf Tryz.prog Tryz.f84 K84 T84 R) ⟨w, w.heap.size, [], 28, []⟩ s := fun h s hs => done s _ _ hs (by simp [goK, h]) (by simp [goK, h])
 refine ⟨fun h => none' (by simp at h; simp [h]) _ rfl, fun h1 => ⟨fun h => none' (by have := of_decide_eq_true h; omega) _ rfl, fun h2 => ⟨fun h => none' (by have := of_decide_eq_true h; omega) _ rfl, fun h3 => ⟨fun h4 => done _ _ _ rfl ?_ ?_, fun h4 => done _ _ _ rfl ?_ ?_⟩⟩⟩⟩
 all_goals have h1 : legalB x = true := by simpa using h1
 all_goals have h2 := of_decide_eq_false h2
 all_goals have h3 := of_decide_eq_false h3
 all_goals have hg : goK x = if x.op = 13 then 1 else if 14 ≤ x.op ∧ x.op ≤ 16 then 2 else 0 := by unfold goK; rw [if_pos ⟨h1, by omega, by omega⟩]
 all_goals rw [hg]
 ·have h4 := of_decide_eq_true h4
  rw [if_neg (by omega)]; split <;> simp <;> omega
 ·have h4 := of_decide_eq_true h4
  rw [if_neg (by omega)]; split <;> simp <;> omega
 ·have h4 := of_decide_eq_false h4
  split
  ·simp [*]
  ·rw [if_neg (by omega)]; simp [*]
 ·have h4 := of_decide_eq_false h4
  split
  ·simp
  ·rw [if_neg (by omega)]; simp
theorem goes93 (x : In) (w : World) : CallsV Tryz.prog 93 [In.val x] w fun v w' => v = .int .i64 (goK x) ∧ Fresh w w' := by
 refine calls_go (keep := K93) (nt := 29) (svs := [.agg (In.sv x)]) Tryz.func93 x93 n93 (by simp) (by simp only [IsL]; exact ⟨_, _, In.is _ x, rfl, rfl⟩) fun R hR => ?_
 (refine Y_go 600 ?_; dsimp only [X93, In.sv, numF, Nat.reduceAdd, zq9r, zq9q, Y_k, zq5f, zq8o, zq6n, Nat.reduceBEq, zq6k, zq7t, List.length_cons, List.length_nil, zq8l, zq73, zq8m, zq8k, zq0a, zq1z, List.nil_append, YK, zq8t, zq4u, zq8p, zq6q, zq9i, normF, zq6l, zq6m, zq86, zq87, zq8c, zq88, zq9y, t93n7, T93n7, zq5c, zq1o, nth, zq1k, dropL, takeL, zq19, zq17, zq9j])
 intro g
 refine call_val (vs := [In.val x]) rfl (fun W hW => legal90 x W) fun v hv => ⟨.val (.bool (legalB x)), by rw [hv]; simp [Is], ?_⟩
 (refine Y_go 600 ?_; dsimp only [zq8t, Y_k, zq4u, zq8o, zq6n, Nat.reduceBEq, zq6k, YK, zq9i, normF, zq6l, zq6m, zq86, zq87, zq8c, zq88, zq9y, t93n6, T93n6, zq9r, zq9q, zq53, zq0o, Y_gk, zq6e, YS, zq6a, zq4v, zq8p, zq6o, zq0b, zq89, zq9s, zq6f, YC, t93n0, T93n0, zq6q, zq9x, YR, zq5a, zq14, Nat.reduceAdd, zq6c, zq5c, zq1o, nth, zq1k, List.length_cons, List.length_nil, dropL, takeL, zq19, zq18, zq50, zq04, zq92, zq9b, zq0i, zq9e, zq0c, zq9g, zq6h, zq8x, zq9p, t93n5, T93n5, Nat.add_zero, zq9c, zq8a, t93n1, T93n1, t93n4, T93n4, zq9h, zq6d, zq69, zq9f, zq6p, t93n2, T93n2, t93n3, T93n3, zq6b, zq6g])
 have done : ∀ s n, denAll s.H s.F [2] = some [.int .i64 n] → n = goK x → RetG (cxOf Tryz.prog Tryz.f93 K93 T93 R) ⟨w, w.heap.size, [], 29, []⟩ s := fun s n hs h1 =>
  ret_rule (vs := [.int .i64 n]) r93 rfl hs fun W hW => hR _ _ ⟨by rw [h1]; rfl, hW.fresh'⟩
 have none' : ¬ (legalB x = true ∧ 0 ≤ x.imm ∧ x.imm ≤ 1024) → ∀ s, denAll s.H s.F [2] = some [.int .i64 0] → RetG (cxOf Tryz.prog Tryz.f93 K93 T93 R) ⟨w, w.heap.size, [], 29, []⟩ s := fun h s hs => done s _ hs (by simp [goK, h])
 refine ⟨fun h => none' (by simp at h; simp [h]) _ rfl, fun h1 => ⟨fun h => none' (by have := of_decide_eq_true h; omega) _ rfl, fun h2 => ⟨fun h => none' (by have := of_decide_eq_true h; omega) _ rfl, fun h3 => ?_⟩⟩⟩
 have h1 : legalB x = true := by simpa using h1
 have h2 := of_decide_eq_false h2
 have h3 := of_decide_eq_false h3
 have hg : goK x = if x.op = 13 then 1 else if 14 ≤ x.op ∧ x.op ≤ 16 then 2 else 0 := by unfold goK; rw [if_pos ⟨h1, by omega, by omega⟩]
 refine ⟨fun h4 => done _ _ rfl ?_, fun h4 => ⟨fun h5 => ⟨fun h6 => done _ _ rfl ?_, fun h6 => done _ _ rfl ?_⟩, fun h5 => done _ _ rfl ?_⟩⟩
 ·have h4 : x.op = 13 := by simpa using h4
  rw [hg, if_pos h4]
 ·have h4 : x.op ≠ 13 := by simpa using h4
  have h5 := of_decide_eq_true h5; have h6 := of_decide_eq_true h6
  rw [hg, if_neg h4, if_pos ⟨h5, h6⟩]
 ·have h4 : x.op ≠ 13 := by simpa using h4
  have h5 := of_decide_eq_true h5; have h6 := of_decide_eq_false h6
  rw [hg, if_neg h4, if_neg (by omega)]
 ·have h4 : x.op ≠ 13 := by simpa using h4
  have h5 := of_decide_eq_false h5
  rw [hg, if_neg h4, if_neg (by omega)]
theorem oneI (l : List In) : ∀ u ∈ cellsI l, u.oneCell' = true := by
 intro u hu
 simp only [cellsI, In.cells, List.mem_flatMap, List.mem_cons, List.not_mem_nil, or_false] at hu
 obtain ⟨x, _, rfl | rfl | rfl | rfl | rfl⟩ := hu <;> rfl
theorem twin29 (A : Option Addr) (c : Nat) (l : List In) (w : World) (hA : RowAt w A (cellsI l)) (hl : l.length ≤ 2000000) :
  CallsV Tryz.prog 29 [.slice A l.length c] w fun v w' => World.ownsB w' w.heap.size 41 5 v l.length (cellsI l) ∧ Fresh w w' := by
 refine calls_go (keep := K29) (nt := 7) (svs := [.val (.slice A l.length c)]) Tryz.func29 x29 n29 (by simp) (by simp [IsL, Is]) fun R hR => ?_
 (refine Y_go 600 ?_; dsimp only [X29, numF, Nat.reduceAdd, zq9r, zq9q, Y_k, zq4u, zq8p, zq6u, YK, zq8t, zq9i, normF, zq6n, Nat.reduceBEq, zq6l, zq6k, zq6m, zq86, zq87, zq9y, t29n1, T29n1, t29n0, T29n0, zq8o, zq5l, zq2v, zq2r, zq2o, zq2g, List.length_nil, List.nil_append, zq8f, zq9x])
 have hrd := hA.rd (nt := 7) (oneI l)
 rw [cellsI_len] at hrd
 refine ⟨_, hrd, ⟨by simp only [maxLen]; omega, by omega⟩, fun A1 c1 => ?_⟩
 exact ret_rule (vs := [_]) r29 rfl rfl fun W hW => hR _ _ ⟨hW.owns (i := 0) rfl, hW.fresh'⟩
theorem clone82 (A : Option Addr) (c : Nat) (l : List In) (w : World) (hA : RowAt w A (cellsI l)) (hl : l.length ≤ 2000000) :
  CallsV Tryz.prog 82 [.slice A l.length c] w fun v w' => World.ownsB w' w.heap.size 41 5 v l.length (cellsI l) ∧ Fresh w w' := by
 refine calls_go (keep := K82) (nt := 8) (svs := [.val (.slice A l.length c)]) Tryz.func82 x82 n82 (by simp) (by simp [IsL, Is]) fun R hR => ?_
 (refine Y_go 600 ?_; dsimp only [X82, numF, Nat.reduceAdd, zq9r, zq9q, Y_k, zq4u, zq8p, zq6u, YK, zq8t, zq9i, normF, zq6n, Nat.reduceBEq, zq6l, zq6k, zq6m, zq86, zq87, zq9y, t82n2, T82n2, zq8o, zq5t, zq3w, zq3q, zq9s, zq6h, zq8x, YC, t82n0, T82n0, zq89, zq9x, zq9p, t82n1, T82n1, zq5h, List.map, zq6q, repL, zq24, zq26, List.length_nil, List.nil_append, zq5l, zq2x, nth, zq2u, Nat.reduceMul, denL, zq2t, zq2r, zq2o, zq2i, List.length_cons, setn, List.cons_append, zq8a, zq8f])
 refine ⟨fun h => ?_, fun h g => ?_⟩
 ·have hl0 : l = [] := by
   cases l with
   | nil => rfl
   | cons x l => have := hA.isSome (j := 0) (by simp [cellsI, In.cells]); cases A <;> simp_all
  subst hl0
  exact ret_rule (vs := [.slice none 0 0]) r82 rfl rfl fun W hW => hR _ _ ⟨ownsB_nil _ _ _ _, hW.fresh'⟩
 ·have hrd := hA.rd (nt := 8) (oneI l)
  rw [cellsI_len] at hrd
  refine ⟨_, hrd, ⟨by simp only [maxLen]; omega, by omega⟩, fun A1 c1 => ?_⟩
  refine ret_rule (vs := [.slice A1 (0 + l.length) c1]) r82 rfl rfl fun W hW => hR _ _ ⟨?_, hW.fresh'⟩
  have := hW.owns (i := 1) rfl
  rw [Nat.zero_add] at this
  rw [Nat.zero_add]; exact this
theorem cellI {w : World} {A : Option Addr} {l : List In} {nt i : Nat} (h : RowAt w A (cellsI l)) (hi : i < l.length) {k : Nat} {v : Value} (hk : (l[i]).cells[k]? = some v) : CellAt ⟨w, w.heap.size, [], nt, []⟩ A (i * 5 + k) v :=
 h.cell (by rw [cellsI_get l hi (List.getElem?_eq_some_iff.1 hk).1]; exact hk)
theorem someI {w : World} {A : Option Addr} {l : List In} {i : Nat} (h : RowAt w A (cellsI l)) (hi : i < l.length) : A.isSome = true := h.isSome (j := i * 5) (by rw [cellsI_len]; omega)
theorem same31 (A B : Option Addr) (c d : Nat) (l m : List In) (w : World) (hA : RowAt w A (cellsI l)) (hB : RowAt w B (cellsI m)) (hl : l.length ≤ 2000000)
   : CallsV Tryz.prog 31 [.slice A l.length c, .slice B m.length d] w fun v w' => Fresh w w' ∧ v = .bool (decide (l = m)) := by
 refine calls_go (keep := K31) (nt := 26) (svs := [.val (.slice A l.length c), .val (.slice B m.length d)]) Tryz.func31 x31 n31 (by simp) (by simp [IsL, Is]) fun R hR => ?_
 have no : l ≠ m → ∀ s, denAll s.H s.F [4] = some [.bool false] → RetG (cxOf Tryz.prog Tryz.f31 K31 T31 R) ⟨w, w.heap.size, [], 26, []⟩ s := fun hk s hs =>
  ret_rule r31 rfl hs fun W hW => hR _ _ ⟨hW.fresh', by simp [hk, tupOf]⟩
 (refine Y_go 600 ?_; dsimp only [X31, numF, Nat.reduceAdd, zq9r, zq9q, Y_k, zq4u, zq8p, zq6p, YK, zq8t, zq9i, normF, zq6n, Nat.reduceBEq, zq6l, zq6k, zq6m, zq86, zq8a, zq87, zq9y, t31n7, T31n7, zq8o, zq55, zq0r, zq50, zq04, zq92, zq9b, zq0i, zq9d, zq9s, zq6h, zq8x, YC, t31n0, T31n0, zq89, zq9x, zq9p, t31n6, T31n6, zq6q, zq9t, zq9v])
 refine ⟨fun h => no (fun e => by simp [e] at h) _ rfl, fun h => ?_⟩
 have hlm : l.length = m.length := by have : (l.length : Int) = m.length := by simpa using h
                                      omega
 refine loop_go (α := Nat) (fun i => i ≤ l.length ∧ l.take i = m.take i) (fun _ => ⟨w, w.heap.size, [], 26, []⟩)
   (fun i => { F := [(0, .val (.slice A l.length c)), (1, .val (.slice B m.length d)), (5, .val (.int .i64 i))], H := [] }) (fun i => l.length - i) (fun _ => rfl) ?start ?round
 case start =>
  intro a W rep
  refine ⟨0, ⟨Nat.zero_le _, by simp⟩, rep.le ?_ ?_⟩ <;> (simp only [setn, List.nil_append, List.cons_append, leF, leH_nil, leH_cons, leF_nil, lk, scp, scpL, scpO, resF, resH, resO, resV, resVL, nth, Nat.reduceBEq, Nat.reduceLT, decide_true, decide_false, List.length, List.length_cons, List.length_nil, Nat.reduceAdd, Bool.and_self, Bool.and_true, and_true, true_and, numF] <;> try simp)
 case round =>
  rintro i ⟨hi, ht⟩ I hI
  (refine Y_go 600 ?_; dsimp only [zq9y, t31n4, T31n4, zq9r, zq9q, Y_k, zq4u, zq8o, zq6n, Nat.reduceBEq, zq6l, zq6k, YK, zq8t, zq55, zq0r, zq50, zq04, zq92, zq9b, zq0i, zq9e, zq9i, normF, zq6m, zq86, zq87, zq9s, zq6h, zq8x, YC, zq9p, t31n3, T31n3, zq9t, zq58, zq06, zq0w, zq5c, zq1p, zq1c, List.nil_append, List.cons_append, zq1b, zq17, zq5s, zq3o, eqSV, zq3p, zq89, t31n1, T31n1, zq8p, zq6p, zq8a, zq9x, zqa1, t31n2, T31n2, zq4w, zq6q, zq0e, zqa2, zq9u, popTo, zq6i, YP, t31n5, T31n5, zq6o])
  refine ⟨fun hlt => ?_, fun hge => ?_⟩
  ·have hlt : i < l.length := by have := of_decide_eq_true hlt; omega
   have hlt' : i < m.length := by omega
   refine ⟨⟨by omega, by omega, someI hA hlt⟩, _, cellI hA hlt (k := 0) rfl, _, cellI hA hlt (k := 1) rfl, _, cellI hA hlt (k := 2) rfl, _, cellI hA hlt (k := 3) rfl, _, cellI hA hlt (k := 4) rfl,
    ⟨by omega, by omega, someI hB hlt'⟩, _, cellI hB hlt' (k := 0) rfl, _, cellI hB hlt' (k := 1) rfl, _, cellI hB hlt' (k := 2) rfl, _, cellI hB hlt' (k := 3) rfl, _, cellI hB hlt' (k := 4) rfl, ?_⟩
   have hel : (l[i].op = m[i].op ∧ l[i].a = m[i].a ∧ l[i].b = m[i].b ∧ l[i].c = m[i].c ∧ l[i].imm = m[i].imm) ↔ l[i] = m[i] := by
    constructor
    ·rintro ⟨h1, h2, h3, h4, h5⟩
     have : ∀ x y : In, x.op = y.op → x.a = y.a → x.b = y.b → x.c = y.c → x.imm = y.imm → x = y := by
      rintro ⟨⟩ ⟨⟩ h1 h2 h3 h4 h5; simp at h1 h2 h3 h4 h5; simp [h1, h2, h3, h4, h5]
     exact this _ _ h1 h2 h3 h4 h5
    ·intro h; rw [h]; simp
   refine ⟨fun h => no (fun e => ?_) _ rfl, fun h => ⟨_, .add64 (by omega) (by omega), lend_rule fun a W rep => hI (i + 1) ⟨by omega, ?_⟩ (by omega) a W (rep.le ?_ ?_)⟩⟩
   ·subst e; simp at h
   ·rw [take_succ l hlt, take_succ m hlt', ht, hel.1 (by simpa using h)]
   ·(simp only [setn, List.nil_append, List.cons_append, leF, leH_nil, leH_cons, leF_nil, lk, scp, scpL, scpO, resF, resH, resO, resV, resVL, nth, Nat.reduceBEq, Nat.reduceLT, decide_true, decide_false, List.length, List.length_cons, List.length_nil, Nat.reduceAdd, Bool.and_self, Bool.and_true, and_true, true_and, numF] <;> try simp)
   ·(simp only [setn, List.nil_append, List.cons_append, leF, leH_nil, leH_cons, leF_nil, lk, scp, scpL, scpO, resF, resH, resO, resV, resVL, nth, Nat.reduceBEq, Nat.reduceLT, decide_true, decide_false, List.length, List.length_cons, List.length_nil, Nat.reduceAdd, Bool.and_self, Bool.and_true, and_true, true_and, numF] <;> try simp)
  ·have hil : i = l.length := by have := of_decide_eq_false hge; omega
   subst hil
   have : l = m := by rw [List.take_length, hlm, List.take_length] at ht; exact ht
   exact ret_rule (vs := [.bool true]) r31 rfl rfl fun W hW => hR _ _ ⟨hW.fresh', by simp [this, tupOf]⟩
end Go.Proofs.YtlbiogokpadaoaaGreatDoor
