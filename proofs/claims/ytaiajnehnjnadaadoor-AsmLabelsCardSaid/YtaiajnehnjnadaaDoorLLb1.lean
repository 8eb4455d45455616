/- asm.Labels; the chapter's first example. -/
import Derived.Test.YtaiajnehnjnadaaDoorLAsW5
import Derived.Test.YtaiajnehnjnadaaDoorLAsCodeL
set_option linter.unusedSimpArgs false
set_option linter.unusedVariables false
set_option linter.unnecessarySimpa false
namespace Go.Proofs.YtaiajnehnjnadaaDoor
open Go Go.Sx Go.Isa Go.Asm
set_option maxRecDepth 100000
theorem labels12 (t : B) (w : World) (ht : t.length ≤ 40000) (hG : ShAt w) (hT : TabAt w) (hLb : LibAt w) :
  CallsV Tryd.prog 12 [.string ⟨⟨t⟩⟩] w fun v w' => ∃ (A : Option Addr) (c : Nat), v = .tuple #[.slice A (asmL t).2.1.length c, .int .i64 ((asmL t).2.2 : Nat), .int .i64 (asmE (asmL t).2.2)] ∧ World.ownsB w' w.heap.size 39 2 (.slice A (asmL t).2.1.length c) (asmL t).2.1.length (lbV (asmL t).2.1) ∧ Fresh w w' := by
 refine calls_go (keep := K12) (nt := 23) (svs := [.val (.string ⟨⟨t⟩⟩)]) Tryd.func12 x12 n12 (by simp) (by simp [IsL, Is]) fun R hR => ?_
 (refine Y_go 600 ?_; dsimp only [X12, numF, Nat.reduceAdd, zq9q, zq9p, Y_k, zq4t, zq8o, zq6t, YK, zq8s, zq6p, zq9h, normF, zq6m, Nat.reduceBEq, zq6k, zq6j, zq6l, zq85, zq86, zq9x, t12n4, T12n4, zq8n, zq9i])
 refine call_base (vs := [.string ⟨⟨t⟩⟩]) rfl (R := fun W v W' => readR (readL (linesL t) [] []) W W' v) (fun W hW => read96 t W ht (hG.keep hW.fresh') (hT.keep hW.fresh') (hLb.keep hW.fresh')) (fun _ _ _ h => by obtain ⟨_, _, _, _, _, _, _, h⟩ := h; exact h) fun W v W' hW hr ov => ?_
 have hok := readL_ok (linesL t) [] [] LbOk.nil (by simp)
 have has : asmL t = (if wrongL (allN (linesL t)) (readL (linesL t) [] []).1 (readL (linesL t) [] []).2.2 = 0 then (outL (readL (linesL t) [] []).2.1 (readL (linesL t) [] []).1, (readL (linesL t) [] []).2.1, 0) else ([], [], wrongL (allN (linesL t)) (readL (linesL t) [] []).1 (readL (linesL t) [] []).2.2)) := rfl
 generalize asmL t = res at has hR ⊢
 generalize readL (linesL t) [] [] = r at hr hok has
 obtain ⟨l, lb, bad⟩ := r
 simp only at hok has
 obtain ⟨A1, c1, A2, c2, rfl, ho1, ho2, hf⟩ := hr
 simp only at ho1 ho2
 have hG' : ShAt W' := (hG.keep hW.fresh').keep hf
 have hT' : TabAt W' := (hT.keep hW.fresh').keep hf
 have hL' : LibAt W' := (hLb.keep hW.fresh').keep hf
 have hr1 : RowAt W' A1 (lnV l) := .of_own ho1 rfl
 have hw1 : Fresh w W' := Fresh.tr hW.fresh' hf
 have hlow := ownsB_low ho2 hW.fresh'.size
 refine ⟨.tup [.val (.slice A1 l.length c1), .val (.slice A2 lb.length c2), .val (.int .i64 (bad : Int))], by simp [Is, IsL], ?_⟩
 have hfp : fps ([] : List SO) = [] := rfl
 rw [hfp]
 have back : ∀ {H : List SO} {W2 : World}, HeapOk ⟨W', W'.heap.size, [], 23, []⟩ H W2 → Fresh w W2 := fun h => Fresh.tr hw1 h.fresh'
 clear ov
 (refine Y_go 600 ?_; dsimp only [zq8s, Y_k, zq4t, zq8n, zq6m, Nat.reduceBEq, zq6j, YK, zq5i, zq2f, nth, zq2e, zq6k, zq9h, normF, zq6l, zq85, zq86, zq9x, t12n3, T12n3, zq9q, zq9p, zq9i])
 have hl1 : l.length ≤ 1024 := hok.2
 refine call_val (vs := [.string ⟨⟨t⟩⟩, .slice A1 l.length c1, .int .i64 (bad : Int)]) rfl (fun W2 hW2 => wrong97 t l A1 c1 bad W2 ht (hr1.keep hW2.fresh') hl1 (hG'.keep hW2.fresh') (hT'.keep hW2.fresh') (hL'.keep hW2.fresh')) fun v hv => ⟨.val (.int .i64 ((wrongL (allN (linesL t)) l bad : Nat) : Int)), by rw [hv]; simp [Is], ?_⟩
 generalize wrongL (allN (linesL t)) l bad = n at has
 (refine Y_go 600 ?_; dsimp only [zq8s, Y_k, zq4t, zq8n, zq6m, Nat.reduceBEq, zq6j, YK, zq9h, normF, zq6k, zq6l, zq85, zq86, zq9x, t12n1, T12n1, zq9q, zq9p, zq4z, zq8o, zq6p, zq04, zq91, zq9a, zq0i, zq9f, zq9r, zq6g, zq8w, YC, t12n0, T12n0, zq6t, zq88, zq9w, zq9o, t12n2, T12n2, zq89])
 refine ⟨fun h => ?_, fun h => ?_⟩
 ·have h : n ≠ 0 := by have := of_decide_eq_true h; omega
  rw [if_neg h] at has
  subst has
  refine ret_rule (vs := [_, _, _]) r12 rfl rfl fun W2 hW2 => hR _ _ ⟨none, 0, ?_, ownsB_nil _ _ _ _, back hW2⟩
  simp [asmE, h, tupOf]
 have h : n = 0 := by have := of_decide_eq_false h; omega
 rw [if_pos h] at has
 subst h; subst has
 exact ret_rule (vs := [_, _, _]) r12 rfl rfl fun W2 hW2 => hR _ _ ⟨A2, c2, rfl, ownsB_keep hlow hW2.fresh', back hW2⟩
def alT : B := [108, 111, 111, 112, 58, 10, 32, 108, 111, 97, 100, 32, 49, 32, 48, 32, 56, 10, 32, 101, 113, 32, 49, 32, 48, 32, 108, 111, 111, 112, 32, 59, 32, 97, 103, 97, 105, 110, 10, 104, 97, 108, 116]
theorem alT_is : asmL alT = ([⟨11, 1, 0, 0, 8⟩, ⟨14, 1, 0, 0, 0⟩, ⟨1, 0, 0, 0, 0⟩], [([108, 111, 111, 112], 0)], 0) := by kernel_rfl
theorem alive10 (w : World) (hG : ShAt w) (hT : TabAt w) (hLb : LibAt w) : CallsV Tryd.prog 10 [] w fun v w' => v = .bool true ∧ Fresh w w' := by
 refine calls_go (keep := K10) (nt := 34) (svs := []) Tryd.func10 x10 n10 (by simp) (by simp [IsL]) fun R hR => ?_
 (refine Y_go 600 ?_; dsimp only [X10, numF, zq9q, zq9p, Y_k, zq4t, zq8o, zq6o, YK, zq8s, zq9h, normF, zq6m, Nat.reduceBEq, zq6j, zq6k, zq6l, zq85, zq89, zq9x, t10n1, T10n1, zq9i])
 refine call_rule (vs := [.string ⟨⟨alT⟩⟩]) rfl (R := fun W v W' => ∃ (A : Option Addr) (c : Nat), v = .tuple #[.slice A 3 c, .int .i64 0, .int .i64 0] ∧ World.ownsB W' W.heap.size 43 5 (.slice A 3 c) 3 (cellsI [⟨11, 1, 0, 0, 8⟩, ⟨14, 1, 0, 0, 0⟩, ⟨1, 0, 0, 0, 0⟩]) ∧ Fresh W W') (fun W hW => (assemble66 alT W (by decide) (hG.keep hW.fresh') (hT.keep hW.fresh') (hLb.keep hW.fresh')).mono fun v w' h => by rw [alT_is] at h; exact h) fun W v W' hW ⟨A, c, hv, ho, hk⟩ => ?_
 obtain ⟨A', c', e1, e2, e5, _⟩ := hW.gain ho hk
 injection e1 with e3 _ e4
 subst e3; subst e4; subst hv
 refine ⟨.tup [.own 0 0, .val (.int .i64 0), .val (.int .i64 0)], _, ?_, e2, e5, ?_⟩
 ·simp only [Is, IsL]; exact ⟨_, ⟨_, _, ⟨_, _, _, _, _, _, _, rfl, Nat.le_refl _, ⟨_, _, _, rfl⟩, fun _ => rfl⟩, ⟨_, _, rfl, ⟨_, _, rfl, rfl, rfl⟩, rfl⟩, rfl⟩, rfl⟩
 clear e5 e2 hW ho hk
 (refine Y_go 600 ?_; dsimp only [zq8s, List.nil_append, Y_k, zq4t, zq8n, zq6m, Nat.reduceBEq, zq6j, YK, zq5i, zq2f, nth, zq2e, zq6k, zq9h, normF, zq86, zq8e, zq89, zq9x, t10n0, T10n0, zq9q, zq9p, zq4z, zq8o, zq6p, zq04, zq91, zq9a, zq0i, zq9b, Y_gk, zq6c, YR, zq68, zq4u, zq6o, zq0b, zq54, zq0t, zq09, zq08, zq0q, zq57, zq06, zq0y, zq0v, Int.reduceToNat, Nat.reduceMul, zq5b, zq1q, zq1n, zq1c, Nat.reduceAdd, List.cons_append, zq1b, zq17, zq5f, List.map, zq21, zq7t, zq72, zq0a, dropL, takeL, zq20, splice, setn, zq22, zq25, zq5r, zq3n, eqSV, zq3p, zq59, zq15, Nat.add_zero, zq13, zq18, zq9w, YS, zq6a, zq0c])
 refine ⟨fun _ => ⟨fun _ => ⟨fun _ => ⟨⟨by omega, by omega⟩, 14, rfl, 1, rfl, 0, rfl, 0, rfl, 0, rfl, fun _ => ⟨⟨by omega, by omega⟩, 1, rfl, ret_rule (vs := [.bool true]) r10 rfl rfl fun W hW => hR _ _ ⟨rfl, hW.fresh'⟩⟩, fun h => absurd h (by decide)⟩, fun h => absurd h (by decide)⟩, fun h => absurd h (by decide)⟩, fun h => absurd h (by decide)⟩
theorem law5 (t : B) (w : World) (hG : ShAt w) (hT : TabAt w) (hLb : LibAt w) : CallsV Tryd.prog 5 [.string ⟨⟨t⟩⟩] w fun v w' => Fresh w w' ∧ v = .bool true := by
 refine calls_go (keep := K5) (nt := 98) (svs := [.val (.string ⟨⟨t⟩⟩)]) Tryd.func5 x5 n5 (by simp) (by simp [IsL, Is]) fun R hR => ?_
 (refine Y_go 600 ?_; dsimp only [X5, numF, Nat.reduceAdd, zq9q, zq9p, Y_k, zq4t, zq8o, zq6o, YK, zq8s, zq9h, normF, zq6m, Nat.reduceBEq, zq6k, zq6j, zq6l, zq85, zq89, zq86, zq9x, t5n17, T5n17, zq9i])
 refine call_val (vs := []) rfl (fun W hW => alive10 W (hG.keep hW.fresh') (hT.keep hW.fresh') (hLb.keep hW.fresh')) fun v hv => ⟨.bt, by rw [hv]; simp [Is], ?_⟩
 (refine Y_go 600 ?_; dsimp only [zq8s, Y_k, zq4t, zq8n, zq6m, Nat.reduceBEq, zq6j, YK, zq9h, normF, zq6k, zq6l, zq85, zq88, zq89, zq86, zq9x, t5n16, T5n16, zq9q, zq9p, zq55, zq0u, zq4z, zq8o, zq6p, zq04, zq91, zq9a, zq0i, zq9f, Y_gk, zq6d, YS, zq69, zq4u, zq6n, zq0b, zq9r, zq6e, YC, t5n0, T5n0, zq9w, YR, zq6b, zq52, zq0m, zq0c, zq6f, zq9o, t5n15, T5n15, zq9i])
 have done : ∀ F H, denAll H F [2] = some [.bool true] → RetG (cxOf Tryd.prog Tryd.f5 K5 T5 R) ⟨w, w.heap.size, [], 98, []⟩ { F := F, H := H } := fun F H hd =>
  ret_rule (vs := [.bool true]) r5 rfl hd fun W hW => hR _ _ ⟨hW.fresh', rfl⟩
 refine ⟨fun h => done _ _ rfl, fun h => ?_⟩
 have hsz : (⟨⟨t⟩⟩ : ByteArray).size = t.length := size_str t
 have ht : t.length ≤ 3000 := by have := of_decide_eq_false h; omega
 obtain ⟨q1, q2, q3⟩ := asm_lab t
 have hlab := fun W (hW : HeapOk ⟨w, w.heap.size, [], 98, []⟩ [] W) => labels12 t W (by omega) (hG.keep hW.fresh') (hT.keep hW.fresh') (hLb.keep hW.fresh')
 have hasm := fun W (hW : Fresh w W) => assemble66 t W (by omega) (hG.keep hW) (hT.keep hW) (hLb.keep hW)
 generalize asmL t = res at q1 q2 q3 hlab hasm
 obtain ⟨out, lb, n⟩ := res
 simp only at q1 q2 q3 hlab hasm
 refine call_rule (vs := [.string ⟨⟨t⟩⟩]) rfl (R := fun W v W' => ∃ (A : Option Addr) (c : Nat), v = .tuple #[.slice A lb.length c, .int .i64 (n : Nat), .int .i64 (asmE n)] ∧ World.ownsB W' W.heap.size 39 2 (.slice A lb.length c) lb.length (lbV lb) ∧ Fresh W W') hlab fun W v W' hW ⟨A, c, hv, ho, hk⟩ => ?_
 have hml := ownsB_max ho
 obtain ⟨A', c', e1, e2, e5, _⟩ := hW.gain ho hk
 injection e1 with e3 _ e4
 subst e3; subst e4; subst hv
 refine ⟨.tup [.own 0 0, .val (.int .i64 (n : Int)), .val (.int .i64 (asmE n))], _, ?_, e2, e5, ?_⟩
 ·simp only [Is, IsL]; exact ⟨_, ⟨_, _, ⟨_, _, _, _, _, _, _, rfl, Nat.le_refl _, ⟨_, _, _, rfl⟩, fun _ => rfl⟩, ⟨_, _, rfl, ⟨_, _, rfl, rfl, rfl⟩, rfl⟩, rfl⟩, rfl⟩
 clear e5 e2 hW ho hk hlab
 (refine Y_go 600 ?_; dsimp only [zq8s, List.nil_append, Y_k, zq4t, zq8n, zq6m, Nat.reduceBEq, zq6j, YK, zq5i, zq2f, nth, zq2e, zq6k, zq9h, normF, zq6l, zq85, zq89, zq86, zq8e, zq88, zq9x, t5n14, T5n14, zq9q, zq9p, zq9i])
 refine call_rule (vs := [.string ⟨⟨t⟩⟩]) rfl (R := fun W v W' => ∃ (A : Option Addr) (c : Nat), v = .tuple #[.slice A out.length c, .int .i64 (n : Nat), .int .i64 (asmE n)] ∧ World.ownsB W' W.heap.size 43 5 (.slice A out.length c) out.length (cellsI out) ∧ Fresh W W') (fun W hW => hasm W hW.fresh') fun W v W' hW ⟨A1, c1, hv, ho, hk⟩ => ?_
 have hmo := ownsB_max ho
 obtain ⟨A', c', e1, e2, e5, _⟩ := hW.gain ho hk
 injection e1 with e3 _ e4
 subst e3; subst e4; subst hv
 refine ⟨.tup [.own 1 0, .val (.int .i64 (n : Int)), .val (.int .i64 (asmE n))], _, ?_, e2, e5, ?_⟩
 ·simp only [Is, IsL]; exact ⟨_, ⟨_, _, ⟨_, _, _, _, _, _, _, rfl, Nat.le_refl _, ⟨_, _, _, rfl⟩, fun _ => rfl⟩, ⟨_, _, rfl, ⟨_, _, rfl, rfl, rfl⟩, rfl⟩, rfl⟩, rfl⟩
 clear e5 e2 hW ho hk hasm
 simp only [maxLen] at hml hmo
 (refine Y_go 600 ?_; dsimp only [zq8s, List.cons_append, List.nil_append, Y_k, zq4t, zq8n, zq6m, Nat.reduceBEq, zq6j, YK, zq5i, zq2f, nth, zq2e, zq6k, zq9h, normF, zq6l, zq85, zq89, zq86, zq8e, zq88, zq9x, t5n13, T5n13, zq9q, zq9p, zq4z, zq04, zq91, zq9a, zq0i, zq9c, Y_gk, zq6d, YS, zq69, zq4u, zq8o, zq6n, zq0b, zq9r, zq6e, YC, t5n1, T5n1, zq6o, zq9w, YR, zq6b, zq0c, zq6g, zq8w, zq9o, t5n12, T5n12, zq6p, zq9s, zq9u])
 refine ⟨fun h => absurd h (by simp), fun _ => ⟨fun h => absurd h (by simp), fun _ => ?_⟩⟩
 refine loop_go (α := Nat) (fun i => i ≤ lb.length) (fun _ => ⟨w, w.heap.size, [], 98, []⟩) (fun i => { F := [(3, .bt), (4, .own 0 0), (7, .own 1 0), (10, .val (.int .i64 (i : Int)))], H := [.own 39 0 2 A lb.length c (lbV lb), .own 43 0 5 A1 out.length c1 (cellsI out)] }) (fun i => lb.length - i) (fun _ => rfl) ?start ?round
 case start =>
  intro a W rep
  exact ⟨0, Nat.zero_le _, rep.le (by (simp only [setn, List.nil_append, List.cons_append, leF, leH_nil, leH_cons, leF_nil, lk, scp, scpL, scpO, resF, resH, resO, resV, resVL, nth, Nat.reduceBEq, Nat.reduceLT, decide_true, decide_false, List.length, List.length_cons, List.length_nil, Nat.reduceAdd, Bool.and_self, Bool.and_true, and_true, true_and, numF] <;> try simp)) (by (simp only [setn, List.nil_append, List.cons_append, leF, leH_nil, leH_cons, leF_nil, lk, scp, scpL, scpO, resF, resH, resO, resV, resVL, nth, Nat.reduceBEq, Nat.reduceLT, decide_true, decide_false, List.length, List.length_cons, List.length_nil, Nat.reduceAdd, Bool.and_self, Bool.and_true, and_true, true_and, numF] <;> try simp))⟩
 case round =>
  intro i hi I again
  have hi : i ≤ lb.length := hi
  (refine Y_go 600 ?_; dsimp only [zq9x, t5n10, T5n10, zq9q, zq9p, Y_k, zq4t, zq8n, zq6m, Nat.reduceBEq, zq6k, zq6j, YK, zq8s, zq54, zq0t, nth, zq09, zq08, zq0q, zq4z, zq04, zq91, zq9a, zq0i, zq9d, zq9h, normF, zq6l, zq85, zq86, zq8e, zq88, zq9r, zq6g, zq8w, YC, zq9o, t5n9, T5n9, zq9s, zq57, zq06, zq0y, zq0v, zq59, zq15, zq13, zq5b, zq1q, zq1n, zq1c, List.nil_append, zq1b, zq18, zq8o, zq6p, Y_gk, zq6d, YS, zq69, zq4u, zq6n, zq0b, zq02, zq6e, t5n2, T5n2, zq6o, zq89, zq9w, YR, zq6b, zq9f, zq0c, zq6c, zq68, zq4v, zq0e, t5n7, T5n7, zq9u, zq6a, zq6f, zq9t, popTo, zq6h, YP, t5n11, T5n11])
  refine ⟨fun hlt => ?_, fun hge => done _ _ rfl⟩
  have hlt : i < lb.length := by have := of_decide_eq_true hlt; omega
  have hi1 : ((i : Nat) : Int).toNat = i := by omega
  have gl : ∀ j (hj : j < lb.length), (lbV lb)[j * 2]? = some (.string ⟨⟨(lb[j]).1⟩⟩) ∧ (lbV lb)[j * 2 + 1]? = some (.int .i64 ((lb[j]).2 : Nat)) := fun j hj => ⟨lb_get hj (k := 0) (by omega), lb_get hj (k := 1) (by omega)⟩
  have hle := q1 _ (List.getElem_mem hlt)
  rw [hi1]
  have raw : ∀ F, leF 2 F [(3, .bt), (4, .own 0 0), (7, .own 1 0), (10, .val (.int .i64 (i : Int))), (11, .val (.int .i64 0))] → G (cxOf Tryd.prog Tryd.f5 K5 T5 R) ⟨w, w.heap.size, [], 98, []⟩ [.code (XC.ref 6).loop, .blk 2, .blk 1, .code (.ref 8), .lend I, .blk 0, .code (.ref 11)] { F := F, H := [.own 39 0 2 A lb.length c (lbV lb), .own 43 0 5 A1 out.length c1 (cellsI out)] } := by
   intro F hF
   refine loop_go (α := Nat) (fun k => k ≤ i) (fun _ => ⟨w, w.heap.size, [], 98, []⟩) (fun k => { F := [(3, .bt), (4, .own 0 0), (7, .own 1 0), (10, .val (.int .i64 (i : Int))), (11, .val (.int .i64 (k : Int)))], H := [.own 39 0 2 A lb.length c (lbV lb), .own 43 0 5 A1 out.length c1 (cellsI out)] }) (fun k => i - k) (fun _ => rfl) ?start2 ?round2
   case start2 =>
    intro a W rep
    exact ⟨0, Nat.zero_le _, rep.le hF (by (simp only [setn, List.nil_append, List.cons_append, leF, leH_nil, leH_cons, leF_nil, lk, scp, scpL, scpO, resF, resH, resO, resV, resVL, nth, Nat.reduceBEq, Nat.reduceLT, decide_true, decide_false, List.length, List.length_cons, List.length_nil, Nat.reduceAdd, Bool.and_self, Bool.and_true, and_true, true_and, numF] <;> try simp))⟩
   case round2 =>
    intro k hk I2 again2
    have hk : k ≤ i := hk
    (refine Y_go 600 ?_; dsimp only [zq9x, t5n6, T5n6, zq9q, zq9p, Y_k, zq4t, zq8n, zq6m, Nat.reduceBEq, zq6k, zq6j, YK, zq8s, zq4z, zq04, zq91, zq9a, zq0i, zq9d, zq9h, normF, zq6l, zq85, zq86, zq8e, zq88, zq9r, zq6g, zq8w, YC, zq9o, t5n5, T5n5, zq9s, zq57, zq06, zq0y, nth, zq09, zq08, zq0v, zq59, zq15, Nat.add_zero, zq13, zq5b, zq1q, zq1n, zq1e, List.nil_append, zq1b, zq18, zq51, zq07, zq0l, t5n3, T5n3, zq8o, zq6o, zq89, zq9w, zqa0, t5n4, T5n4, zq4v, zq6p, zq0e, zqa1, zq9t, popTo, zq6h, YP, t5n8, T5n8])
    refine ⟨fun hki => ?_, fun hki => ⟨((i + 1 : Nat) : Int), ArOk.to (by omega) (by omega) (by omega), lend_rule fun a W rep => again (i + 1) (by show i + 1 ≤ _; omega) (by show lb.length - (i + 1) < lb.length - i; omega) a W (rep.le (by (simp only [setn, List.nil_append, List.cons_append, leF, leH_nil, leH_cons, leF_nil, lk, scp, scpL, scpO, resF, resH, resO, resV, resVL, nth, Nat.reduceBEq, Nat.reduceLT, decide_true, decide_false, List.length, List.length_cons, List.length_nil, Nat.reduceAdd, Bool.and_self, Bool.and_true, and_true, true_and, numF] <;> try simp)) (by (simp only [setn, List.nil_append, List.cons_append, leF, leH_nil, leH_cons, leF_nil, lk, scp, scpL, scpO, resF, resH, resO, resV, resVL, nth, Nat.reduceBEq, Nat.reduceLT, decide_true, decide_false, List.length, List.length_cons, List.length_nil, Nat.reduceAdd, Bool.and_self, Bool.and_true, and_true, true_and, numF] <;> try simp)))⟩⟩
    have hki : k < i := by have := of_decide_eq_true hki; omega
    have hk1 : ((k : Nat) : Int).toNat = k := by omega
    have hne : (lb[k]'(by omega)).1 ≠ (lb[i]).1 := by
     intro e
     have := (List.getElem_inj (i := k) (j := i) (h₀ := by simpa using (by omega : k < lb.length)) (h₁ := by simpa using hlt) q3).1 (by simpa using e)
     omega
    rw [hk1, hi1]
    refine ⟨⟨by omega, by omega⟩, _, (gl k (by omega)).1, ⟨by omega, by omega⟩, _, (gl i hlt).1, fun heq => ?_, fun _ => ⟨((k + 1 : Nat) : Int), ArOk.to (by omega) (by omega) (by omega), lend_rule fun a W rep => again2 (k + 1) (by show k + 1 ≤ i; omega) (by show i - (k + 1) < i - k; omega) a W (rep.le (by (simp only [setn, List.nil_append, List.cons_append, leF, leH_nil, leH_cons, leF_nil, lk, scp, scpL, scpO, resF, resH, resO, resV, resVL, nth, Nat.reduceBEq, Nat.reduceLT, decide_true, decide_false, List.length, List.length_cons, List.length_nil, Nat.reduceAdd, Bool.and_self, Bool.and_true, and_true, true_and, numF] <;> try simp)) (by (simp only [setn, List.nil_append, List.cons_append, leF, leH_nil, leH_cons, leF_nil, lk, scp, scpL, scpO, resF, resH, resO, resV, resVL, nth, Nat.reduceBEq, Nat.reduceLT, decide_true, decide_false, List.length, List.length_cons, List.length_nil, Nat.reduceAdd, Bool.and_self, Bool.and_true, and_true, true_and, numF] <;> try simp)))⟩⟩
    have heq : decide ((lb[k]'(by omega)).1 = (lb[i]).1) = true := (strEq _ _).symm.trans heq
    exact absurd (of_decide_eq_true heq) hne
  refine ⟨⟨by omega, by omega⟩, _, (gl i hlt).2, fun h => absurd (of_decide_eq_true h) (by omega), fun _ => ⟨⟨by omega, by omega⟩, _, (gl i hlt).2, fun h => absurd (of_decide_eq_true h) (by omega), fun _ => ⟨fun hpos => ?_, fun _ => raw _ (by (simp only [setn, List.nil_append, List.cons_append, leF, leH_nil, leH_cons, leF_nil, lk, scp, scpL, scpO, resF, resH, resO, resV, resVL, nth, Nat.reduceBEq, Nat.reduceLT, decide_true, decide_false, List.length, List.length_cons, List.length_nil, Nat.reduceAdd, Bool.and_self, Bool.and_true, and_true, true_and, numF] <;> try simp))⟩⟩⟩
  have hpos : 0 < i := by have := of_decide_eq_true hpos; omega
  obtain ⟨j, rfl⟩ : ∃ j, i = j + 1 := ⟨i - 1, by omega⟩
  have hup := (List.pairwise_iff_getElem.1 q2) j (j + 1) (by omega) hlt (by omega)
  have hj1 : ((j : Nat) : Int).toNat = j := by omega
  refine ⟨⟨by omega, by omega⟩, _, (gl (j + 1) hlt).2, (j : Int), .toSub (by omega) (by omega) (by omega), ⟨by omega, by omega⟩, ((lb[j]'(by omega)).2 : Nat), by rw [hj1]; exact (gl j (by omega)).2, fun h => absurd (of_decide_eq_true h) (by omega), fun _ => raw _ (by (simp only [setn, List.nil_append, List.cons_append, leF, leH_nil, leH_cons, leF_nil, lk, scp, scpL, scpO, resF, resH, resO, resV, resVL, nth, Nat.reduceBEq, Nat.reduceLT, decide_true, decide_false, List.length, List.length_cons, List.length_nil, Nat.reduceAdd, Bool.and_self, Bool.and_true, and_true, true_and, numF] <;> try simp))⟩
end Go.Proofs.YtaiajnehnjnadaaDoor
