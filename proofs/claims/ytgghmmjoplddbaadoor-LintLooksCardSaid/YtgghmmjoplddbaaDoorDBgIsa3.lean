/- The document's ShapeOf and shifted. -/
import Derived.Test.YtgghmmjoplddbaaDoorDBgIsa1
import Derived.Test.YtgghmmjoplddbaaDoorDBgCodeIsa
set_option linter.unusedSimpArgs false
set_option linter.unusedVariables false
set_option linter.unnecessarySimpa false
namespace Go.Proofs.YtgghmmjoplddbaaDoor
open Go Go.Sx Go.Isa
set_option maxRecDepth 100000
def hasV (op : Int) (wd : ByteArray) : Value := .agg #[.string wd, .bool (hasL op 65), .bool (hasL op 66), .bool (hasL op 67), .bool (hasL op 73)]
set_option maxHeartbeats 8000000 in
theorem shape119 (op : Int) (w : World) : CallsV Tryd.prog 54 [.int .i64 op] w fun v w' => (∃ wd, v = .tuple #[hasV op wd, .bool (isOp op)]) ∧ Fresh w w' := by
 refine calls_go (keep := K54) (nt := 54) (svs := [.val (.int .i64 op)]) Tryd.func54 x54 n54 (by simp) (by simp [IsL, Is]) fun R hR => ?_
 cases ho : isOp op with
 | true =>
  rcases isOp_cases ho with h | h | h | h | h | h | h | h | h | h | h | h | h | h | h | h | h | h <;> subst h
  all_goals (refine Y_go 600 ?_; dsimp only [X54, numF, Nat.reduceAdd, zq9q, zq9p, Y_k, zq5d, List.length_nil, List.map, zq6r, zq6o, List.nil_append, YK, zq8s, zq4t, zq8o, zq9h, normF, zq6m, Nat.reduceBEq, zq6k, zq6j, zq6l, zq85, zq89, zq8b, zq86, zq9x, t54n29, T54n29, zq8n, t54n27, T54n27, zq9s, zq4z, zq6p, zq04, zq91, zq9a, zq0i, zq9b, zq9r, zq6g, zq8w, YC, t54n0, T54n0, zq5f, zq21, zq7t, zq74, zq0a, dropL, takeL, zq20, splice, setn, zq22, zq25, zq5c, zq7s, List.length_cons, zq8k, zq8l, zq7h, zq8j, zq1x, nth, zq1t, zq1r, zq8r, zq6n, zq88, zq9w, t54n26, T54n26, t54n1, T54n1, zq7u, zq7g, t54n25, T54n25, t54n2, T54n2, t54n24, T54n24, zq9o, zq6e, t54n10, T54n10, zq5g, repL, List.cons_append, zq23, Nat.reduceMul, zq24, zq26, zq8d, t54n9, T54n9, zq4v, zq0e, zq57, zq06, zq0x, zq5b, zq1o, zq1k, t54n8, T54n8, t54n7, T54n7, t54n6, T54n6, t54n5, T54n5, t54n4, T54n4, t54n3, T54n3, t54n23, T54n23, t54n16, T54n16, t54n15, T54n15, t54n14, T54n14, t54n13, T54n13, t54n12, T54n12, t54n11, T54n11, t54n22, T54n22, t54n17, T54n17, t54n21, T54n21, t54n18, T54n18, t54n20, T54n20, t54n19, T54n19, zqa0, t54n28, T54n28])
  all_goals intro g
  all_goals simp only [Int.reduceBEq, Int.reduceBNe, Int.reduceToNat, Nat.reduceMul, Nat.reduceAdd, Int.reduceLT, Int.reduceLE, Int.reduceGT, Int.reduceGE, ge_iff_le, gt_iff_lt, Int.reduceSub, Int.reduceAdd, decide_true, decide_false, Bool.false_eq_true, Bool.true_eq_false, Bool.not_true, Bool.not_false, reduceCtorEq, false_implies, true_implies, forall_const, true_and, and_true]
  all_goals first | done | (exact ret_rv (vs := [_, _]) r54 rfl rfl fun W hW => hR _ _ ⟨⟨_, rfl⟩, hW.fresh'⟩) | skip
  all_goals intro g2
  ·refine ⟨0, .toSub (by omega) (by omega) (by omega), ⟨by omega, by omega⟩, ?_⟩
   simp only [Int.reduceBEq, Int.reduceBNe, Int.reduceToNat, Nat.reduceMul, Nat.reduceAdd, Int.reduceLT, Int.reduceLE, Int.reduceGT, Int.reduceGE, ge_iff_le, gt_iff_lt, Int.reduceSub, Int.reduceAdd, decide_true, decide_false, Bool.false_eq_true, Bool.true_eq_false, Bool.not_true, Bool.not_false, reduceCtorEq, false_implies, true_implies, forall_const, true_and, and_true]
   dsimp only [dropL, takeL, zq19, zq18, YK, zq8s, Y_k, zq5f, List.map, zq6r, zq6o, zq21, zq8n, zq6m, Nat.reduceBEq, zq6j, zq7t, zq74, zq0a, zq20, splice, setn, zq8o, zq6n, zq7u, zq7g, zq22, zq25, zq5c, zq6k, zq7s, List.length_cons, List.length_nil, Nat.reduceAdd, zq8k, zq8l, zq7h, zq8j, zq1x, nth, zq1t, zq1r, zq8r, zq4t, zq9h, normF, zq6l, zq85, zq88, zq89, zq86, zq8d, zq8b, zq9w]
   exact ret_rv (vs := [_, _]) r54 rfl rfl fun W hW => hR _ _ ⟨⟨_, rfl⟩, hW.fresh'⟩
  ·refine ⟨1, .toSub (by omega) (by omega) (by omega), ⟨by omega, by omega⟩, ?_⟩
   simp only [Int.reduceBEq, Int.reduceBNe, Int.reduceToNat, Nat.reduceMul, Nat.reduceAdd, Int.reduceLT, Int.reduceLE, Int.reduceGT, Int.reduceGE, ge_iff_le, gt_iff_lt, Int.reduceSub, Int.reduceAdd, decide_true, decide_false, Bool.false_eq_true, Bool.true_eq_false, Bool.not_true, Bool.not_false, reduceCtorEq, false_implies, true_implies, forall_const, true_and, and_true]
   dsimp only [dropL, takeL, zq19, zq18, YK, zq8s, Y_k, zq5f, List.map, zq6r, zq6o, zq21, zq8n, zq6m, Nat.reduceBEq, zq6j, zq7t, zq74, zq0a, zq20, splice, setn, zq8o, zq6n, zq7u, zq7g, zq22, zq25, zq5c, zq6k, zq7s, List.length_cons, List.length_nil, Nat.reduceAdd, zq8k, zq8l, zq7h, zq8j, zq1x, nth, zq1t, zq1r, zq8r, zq4t, zq9h, normF, zq6l, zq85, zq88, zq89, zq86, zq8d, zq8b, zq9w]
   exact ret_rv (vs := [_, _]) r54 rfl rfl fun W hW => hR _ _ ⟨⟨_, rfl⟩, hW.fresh'⟩
  ·refine ⟨2, .toSub (by omega) (by omega) (by omega), ⟨by omega, by omega⟩, ?_⟩
   simp only [Int.reduceBEq, Int.reduceBNe, Int.reduceToNat, Nat.reduceMul, Nat.reduceAdd, Int.reduceLT, Int.reduceLE, Int.reduceGT, Int.reduceGE, ge_iff_le, gt_iff_lt, Int.reduceSub, Int.reduceAdd, decide_true, decide_false, Bool.false_eq_true, Bool.true_eq_false, Bool.not_true, Bool.not_false, reduceCtorEq, false_implies, true_implies, forall_const, true_and, and_true]
   dsimp only [dropL, takeL, zq19, zq18, YK, zq8s, Y_k, zq5f, List.map, zq6r, zq6o, zq21, zq8n, zq6m, Nat.reduceBEq, zq6j, zq7t, zq74, zq0a, zq20, splice, setn, zq8o, zq6n, zq7u, zq7g, zq22, zq25, zq5c, zq6k, zq7s, List.length_cons, List.length_nil, Nat.reduceAdd, zq8k, zq8l, zq7h, zq8j, zq1x, nth, zq1t, zq1r, zq8r, zq4t, zq9h, normF, zq6l, zq85, zq88, zq89, zq86, zq8d, zq8b, zq9w]
   exact ret_rv (vs := [_, _]) r54 rfl rfl fun W hW => hR _ _ ⟨⟨_, rfl⟩, hW.fresh'⟩
  ·refine ⟨3, .toSub (by omega) (by omega) (by omega), ⟨by omega, by omega⟩, ?_⟩
   simp only [Int.reduceBEq, Int.reduceBNe, Int.reduceToNat, Nat.reduceMul, Nat.reduceAdd, Int.reduceLT, Int.reduceLE, Int.reduceGT, Int.reduceGE, ge_iff_le, gt_iff_lt, Int.reduceSub, Int.reduceAdd, decide_true, decide_false, Bool.false_eq_true, Bool.true_eq_false, Bool.not_true, Bool.not_false, reduceCtorEq, false_implies, true_implies, forall_const, true_and, and_true]
   dsimp only [dropL, takeL, zq19, zq18, YK, zq8s, Y_k, zq5f, List.map, zq6r, zq6o, zq21, zq8n, zq6m, Nat.reduceBEq, zq6j, zq7t, zq74, zq0a, zq20, splice, setn, zq8o, zq6n, zq7u, zq7g, zq22, zq25, zq5c, zq6k, zq7s, List.length_cons, List.length_nil, Nat.reduceAdd, zq8k, zq8l, zq7h, zq8j, zq1x, nth, zq1t, zq1r, zq8r, zq4t, zq9h, normF, zq6l, zq85, zq88, zq89, zq86, zq8d, zq8b, zq9w]
   exact ret_rv (vs := [_, _]) r54 rfl rfl fun W hW => hR _ _ ⟨⟨_, rfl⟩, hW.fresh'⟩
  ·refine ⟨4, .toSub (by omega) (by omega) (by omega), ⟨by omega, by omega⟩, ?_⟩
   simp only [Int.reduceBEq, Int.reduceBNe, Int.reduceToNat, Nat.reduceMul, Nat.reduceAdd, Int.reduceLT, Int.reduceLE, Int.reduceGT, Int.reduceGE, ge_iff_le, gt_iff_lt, Int.reduceSub, Int.reduceAdd, decide_true, decide_false, Bool.false_eq_true, Bool.true_eq_false, Bool.not_true, Bool.not_false, reduceCtorEq, false_implies, true_implies, forall_const, true_and, and_true]
   dsimp only [dropL, takeL, zq19, zq18, YK, zq8s, Y_k, zq5f, List.map, zq6r, zq6o, zq21, zq8n, zq6m, Nat.reduceBEq, zq6j, zq7t, zq74, zq0a, zq20, splice, setn, zq8o, zq6n, zq7u, zq7g, zq22, zq25, zq5c, zq6k, zq7s, List.length_cons, List.length_nil, Nat.reduceAdd, zq8k, zq8l, zq7h, zq8j, zq1x, nth, zq1t, zq1r, zq8r, zq4t, zq9h, normF, zq6l, zq85, zq88, zq89, zq86, zq8d, zq8b, zq9w]
   exact ret_rv (vs := [_, _]) r54 rfl rfl fun W hW => hR _ _ ⟨⟨_, rfl⟩, hW.fresh'⟩
  ·refine ⟨5, .toSub (by omega) (by omega) (by omega), ⟨by omega, by omega⟩, ?_⟩
   simp only [Int.reduceBEq, Int.reduceBNe, Int.reduceToNat, Nat.reduceMul, Nat.reduceAdd, Int.reduceLT, Int.reduceLE, Int.reduceGT, Int.reduceGE, ge_iff_le, gt_iff_lt, Int.reduceSub, Int.reduceAdd, decide_true, decide_false, Bool.false_eq_true, Bool.true_eq_false, Bool.not_true, Bool.not_false, reduceCtorEq, false_implies, true_implies, forall_const, true_and, and_true]
   dsimp only [dropL, takeL, zq19, zq18, YK, zq8s, Y_k, zq5f, List.map, zq6r, zq6o, zq21, zq8n, zq6m, Nat.reduceBEq, zq6j, zq7t, zq74, zq0a, zq20, splice, setn, zq8o, zq6n, zq7u, zq7g, zq22, zq25, zq5c, zq6k, zq7s, List.length_cons, List.length_nil, Nat.reduceAdd, zq8k, zq8l, zq7h, zq8j, zq1x, nth, zq1t, zq1r, zq8r, zq4t, zq9h, normF, zq6l, zq85, zq88, zq89, zq86, zq8d, zq8b, zq9w]
   exact ret_rv (vs := [_, _]) r54 rfl rfl fun W hW => hR _ _ ⟨⟨_, rfl⟩, hW.fresh'⟩
  ·refine ⟨6, .toSub (by omega) (by omega) (by omega), ⟨by omega, by omega⟩, ?_⟩
   simp only [Int.reduceBEq, Int.reduceBNe, Int.reduceToNat, Nat.reduceMul, Nat.reduceAdd, Int.reduceLT, Int.reduceLE, Int.reduceGT, Int.reduceGE, ge_iff_le, gt_iff_lt, Int.reduceSub, Int.reduceAdd, decide_true, decide_false, Bool.false_eq_true, Bool.true_eq_false, Bool.not_true, Bool.not_false, reduceCtorEq, false_implies, true_implies, forall_const, true_and, and_true]
   dsimp only [dropL, takeL, zq19, zq18, YK, zq8s, Y_k, zq5f, List.map, zq6r, zq6o, zq21, zq8n, zq6m, Nat.reduceBEq, zq6j, zq7t, zq74, zq0a, zq20, splice, setn, zq8o, zq6n, zq7u, zq7g, zq22, zq25, zq5c, zq6k, zq7s, List.length_cons, List.length_nil, Nat.reduceAdd, zq8k, zq8l, zq7h, zq8j, zq1x, nth, zq1t, zq1r, zq8r, zq4t, zq9h, normF, zq6l, zq85, zq88, zq89, zq86, zq8d, zq8b, zq9w]
   exact ret_rv (vs := [_, _]) r54 rfl rfl fun W hW => hR _ _ ⟨⟨_, rfl⟩, hW.fresh'⟩
  ·refine ⟨0, .toSub (by omega) (by omega) (by omega), ⟨by omega, by omega⟩, ?_⟩
   simp only [Int.reduceBEq, Int.reduceBNe, Int.reduceToNat, Nat.reduceMul, Nat.reduceAdd, Int.reduceLT, Int.reduceLE, Int.reduceGT, Int.reduceGE, ge_iff_le, gt_iff_lt, Int.reduceSub, Int.reduceAdd, decide_true, decide_false, Bool.false_eq_true, Bool.true_eq_false, Bool.not_true, Bool.not_false, reduceCtorEq, false_implies, true_implies, forall_const, true_and, and_true]
   dsimp only [dropL, takeL, zq19, zq18, YK, zq8s, Y_k, zq5f, List.map, zq6r, zq6o, zq21, zq8n, zq6m, Nat.reduceBEq, zq6j, zq7t, zq74, zq0a, zq20, splice, setn, zq8o, zq6n, zq7u, zq7g, zq22, zq25, zq5c, zq6k, zq7s, List.length_cons, List.length_nil, Nat.reduceAdd, zq8k, zq8l, zq7h, zq8j, zq1x, nth, zq1t, zq1r, zq8r, zq4t, zq9h, normF, zq6l, zq85, zq88, zq89, zq86, zq8d, zq8b, zq9w]
   exact ret_rv (vs := [_, _]) r54 rfl rfl fun W hW => hR _ _ ⟨⟨_, rfl⟩, hW.fresh'⟩
  ·refine ⟨1, .toSub (by omega) (by omega) (by omega), ⟨by omega, by omega⟩, ?_⟩
   simp only [Int.reduceBEq, Int.reduceBNe, Int.reduceToNat, Nat.reduceMul, Nat.reduceAdd, Int.reduceLT, Int.reduceLE, Int.reduceGT, Int.reduceGE, ge_iff_le, gt_iff_lt, Int.reduceSub, Int.reduceAdd, decide_true, decide_false, Bool.false_eq_true, Bool.true_eq_false, Bool.not_true, Bool.not_false, reduceCtorEq, false_implies, true_implies, forall_const, true_and, and_true]
   dsimp only [dropL, takeL, zq19, zq18, YK, zq8s, Y_k, zq5f, List.map, zq6r, zq6o, zq21, zq8n, zq6m, Nat.reduceBEq, zq6j, zq7t, zq74, zq0a, zq20, splice, setn, zq8o, zq6n, zq7u, zq7g, zq22, zq25, zq5c, zq6k, zq7s, List.length_cons, List.length_nil, Nat.reduceAdd, zq8k, zq8l, zq7h, zq8j, zq1x, nth, zq1t, zq1r, zq8r, zq4t, zq9h, normF, zq6l, zq85, zq88, zq89, zq86, zq8d, zq8b, zq9w]
   exact ret_rv (vs := [_, _]) r54 rfl rfl fun W hW => hR _ _ ⟨⟨_, rfl⟩, hW.fresh'⟩
  ·refine ⟨3, .toSub (by omega) (by omega) (by omega), ⟨by omega, by omega⟩, ?_⟩
   simp only [Int.reduceBEq, Int.reduceBNe, Int.reduceToNat, Nat.reduceMul, Nat.reduceAdd, Int.reduceLT, Int.reduceLE, Int.reduceGT, Int.reduceGE, ge_iff_le, gt_iff_lt, Int.reduceSub, Int.reduceAdd, decide_true, decide_false, Bool.false_eq_true, Bool.true_eq_false, Bool.not_true, Bool.not_false, reduceCtorEq, false_implies, true_implies, forall_const, true_and, and_true]
   dsimp only [dropL, takeL, zq19, zq18, YK, zq8s, Y_k, zq5f, List.map, zq6r, zq6o, zq21, zq8n, zq6m, Nat.reduceBEq, zq6j, zq7t, zq74, zq0a, zq20, splice, setn, zq8o, zq6n, zq7u, zq7g, zq22, zq25, zq5c, zq6k, zq7s, List.length_cons, List.length_nil, Nat.reduceAdd, zq8k, zq8l, zq7h, zq8j, zq1x, nth, zq1t, zq1r, zq8r, zq4t, zq9h, normF, zq6l, zq85, zq88, zq89, zq86, zq8d, zq8b, zq9w]
   exact ret_rv (vs := [_, _]) r54 rfl rfl fun W hW => hR _ _ ⟨⟨_, rfl⟩, hW.fresh'⟩
  ·refine ⟨4, .toSub (by omega) (by omega) (by omega), ⟨by omega, by omega⟩, ?_⟩
   simp only [Int.reduceBEq, Int.reduceBNe, Int.reduceToNat, Nat.reduceMul, Nat.reduceAdd, Int.reduceLT, Int.reduceLE, Int.reduceGT, Int.reduceGE, ge_iff_le, gt_iff_lt, Int.reduceSub, Int.reduceAdd, decide_true, decide_false, Bool.false_eq_true, Bool.true_eq_false, Bool.not_true, Bool.not_false, reduceCtorEq, false_implies, true_implies, forall_const, true_and, and_true]
   dsimp only [dropL, takeL, zq19, zq18, YK, zq8s, Y_k, zq5f, List.map, zq6r, zq6o, zq21, zq8n, zq6m, Nat.reduceBEq, zq6j, zq7t, zq74, zq0a, zq20, splice, setn, zq8o, zq6n, zq7u, zq7g, zq22, zq25, zq5c, zq6k, zq7s, List.length_cons, List.length_nil, Nat.reduceAdd, zq8k, zq8l, zq7h, zq8j, zq1x, nth, zq1t, zq1r, zq8r, zq4t, zq9h, normF, zq6l, zq85, zq88, zq89, zq86, zq8d, zq8b, zq9w]
   exact ret_rv (vs := [_, _]) r54 rfl rfl fun W hW => hR _ _ ⟨⟨_, rfl⟩, hW.fresh'⟩
  ·refine ⟨5, .toSub (by omega) (by omega) (by omega), ⟨by omega, by omega⟩, ?_⟩
   simp only [Int.reduceBEq, Int.reduceBNe, Int.reduceToNat, Nat.reduceMul, Nat.reduceAdd, Int.reduceLT, Int.reduceLE, Int.reduceGT, Int.reduceGE, ge_iff_le, gt_iff_lt, Int.reduceSub, Int.reduceAdd, decide_true, decide_false, Bool.false_eq_true, Bool.true_eq_false, Bool.not_true, Bool.not_false, reduceCtorEq, false_implies, true_implies, forall_const, true_and, and_true]
   dsimp only [dropL, takeL, zq19, zq18, YK, zq8s, Y_k, zq5f, List.map, zq6r, zq6o, zq21, zq8n, zq6m, Nat.reduceBEq, zq6j, zq7t, zq74, zq0a, zq20, splice, setn, zq8o, zq6n, zq7u, zq7g, zq22, zq25, zq5c, zq6k, zq7s, List.length_cons, List.length_nil, Nat.reduceAdd, zq8k, zq8l, zq7h, zq8j, zq1x, nth, zq1t, zq1r, zq8r, zq4t, zq9h, normF, zq6l, zq85, zq88, zq89, zq86, zq8d, zq8b, zq9w]
   exact ret_rv (vs := [_, _]) r54 rfl rfl fun W hW => hR _ _ ⟨⟨_, rfl⟩, hW.fresh'⟩
 | false =>
  have hn : ∀ k : Int, 1 ≤ k → k ≤ 18 → (op == k) = false := by
   intro k h1 h2
   rw [beq_eq_false_iff_ne]
   intro e; subst e; simp [isOp, h1, h2] at ho
  (refine Y_go 600 ?_; dsimp only [X54, numF, Nat.reduceAdd, zq9q, zq9p, Y_k, zq5d, List.length_nil, List.map, zq6r, zq6o, List.nil_append, YK, zq8s, zq4t, zq8o, zq9h, normF, zq6m, Nat.reduceBEq, zq6k, zq6j, zq6l, zq85, zq89, zq8b, zq86, zq9x, t54n29, T54n29, zq8n, t54n27, T54n27, zq9s, zq4z, zq6p, zq04, zq91, zq9a, zq0i, zq9b, zq9r, zq6g, zq8w, YC, t54n0, T54n0, zq5f, zq21, zq7t, zq74, zq0a, dropL, takeL, zq20, splice, setn, zq22, zq25, zq5c, zq7s, List.length_cons, zq8k, zq8l, zq7h, zq8j, zq1x, nth, zq1t, zq1r, zq8r, zq6n, zq88, zq9w, t54n26, T54n26, t54n1, T54n1, zq7u, zq7g, t54n25, T54n25, t54n2, T54n2, t54n24, T54n24, zq9o, zq6e, t54n10, T54n10, zq5g, repL, List.cons_append, zq23, Nat.reduceMul, zq24, zq26, zq8d, t54n9, T54n9, zq4v, zq0e, zq57, zq06, zq0x, zq5b, zq1o, zq1k, t54n8, T54n8, t54n7, T54n7, t54n6, T54n6, t54n5, T54n5, t54n4, T54n4, t54n3, T54n3, t54n23, T54n23, t54n16, T54n16, t54n15, T54n15, t54n14, T54n14, t54n13, T54n13, t54n12, T54n12, t54n11, T54n11, t54n22, T54n22, t54n17, T54n17, t54n21, T54n21, t54n18, T54n18, t54n20, T54n20, t54n19, T54n19, zqa0, t54n28, T54n28])
  intro g
  simp only [hn 1 (by omega) (by omega), hn 2 (by omega) (by omega), hn 3 (by omega) (by omega), hn 4 (by omega) (by omega), hn 5 (by omega) (by omega), hn 6 (by omega) (by omega), hn 7 (by omega) (by omega), hn 8 (by omega) (by omega), hn 9 (by omega) (by omega), hn 10 (by omega) (by omega), hn 11 (by omega) (by omega), hn 12 (by omega) (by omega), hn 13 (by omega) (by omega), hn 14 (by omega) (by omega), hn 15 (by omega) (by omega), hn 16 (by omega) (by omega), hn 17 (by omega) (by omega), hn 18 (by omega) (by omega)]
  simp only [Int.reduceBEq, Int.reduceBNe, Int.reduceToNat, Nat.reduceMul, Nat.reduceAdd, Int.reduceLT, Int.reduceLE, Int.reduceGT, Int.reduceGE, ge_iff_le, gt_iff_lt, Int.reduceSub, Int.reduceAdd, decide_true, decide_false, Bool.false_eq_true, Bool.true_eq_false, Bool.not_true, Bool.not_false, reduceCtorEq, false_implies, true_implies, forall_const, true_and, and_true]
  have e : ∀ c, hasL op c = false := by intro c; simp [hasL, nmL_out ho, Lib.indexByte]
  exact ret_rv (vs := [_, _]) r54 rfl rfl fun W hW => hR _ _ ⟨⟨_, by simp only [hasV, e, ho]; rfl⟩, hW.fresh'⟩
end Go.Proofs.YtgghmmjoplddbaaDoor
