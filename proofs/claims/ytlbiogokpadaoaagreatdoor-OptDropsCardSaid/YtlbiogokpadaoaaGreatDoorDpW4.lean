/- opt's drop, and what it asks of each place. -/
import Derived.Test.YtlbiogokpadaoaaGreatDoorDpW1
import Derived.Test.YtlbiogokpadaoaaGreatDoorBgCodeDrop
set_option linter.unusedSimpArgs false
set_option linter.unusedVariables false
set_option linter.unnecessarySimpa false
namespace Go.Proofs.YtlbiogokpadaoaaGreatDoor
open Go Go.Sx Go.Isa
set_option maxRecDepth 100000

theorem gone86 (i : Nat) (l : List In) (A : Option Addr) (c : Nat) (P : Option Addr) (w : World) (hG : ShAt w) (hP : RowAt w P [.slice A l.length c]) (hA : RowAt w A (cellsI l)) (hi : i < l.length) (hl : l.length ≤ 2000) :
    CallsV Tryz.prog 86 [.int .i64 (i : Int), .pointer P] w fun v w' => v = .bool (skipB l i) ∧ Fresh w w' := by
  refine calls_go (keep := K86) (nt := 25) (svs := [.val (.int .i64 (i : Int)), .adr P 0]) Tryz.func86 x86 n86 (by simp) (by simp [IsL, Is]; cases P <;> simp [Addr.add]) fun R hR => ?_
  (refine Y_go 600 ?_; dsimp only [X86, numF, Nat.reduceAdd, zq9q, zq9p, Y_k, zq4t, zq8o, zq6o, YK, zq8s, zq9h, normF, zq6m, Nat.reduceBEq, zq6k, zq6j, zq6l, zq85, zq89, zq8c, zq86, zq9x, t86n1, T86n1, zq5b, zq8n, zq1p, zq1g, List.nil_append, zq1b, zq18, zq57, zq06, zq0w, zq1c, List.cons_append, zq17, zq9i])
  have hi1 : ((i : Nat) : Int).toNat = i := by omega
  refine ⟨A, l.length, c, hP.cell rfl, ⟨by omega, by omega, someI hA hi⟩, ?_⟩
  rw [hi1]
  refine ⟨_, cellI hA hi (k := 0) rfl, _, cellI hA hi (k := 1) rfl, _, cellI hA hi (k := 2) rfl, _, cellI hA hi (k := 3) rfl, _, cellI hA hi (k := 4) rfl, ?_⟩
  have hx : l[i]? = some l[i] := List.getElem?_eq_getElem hi
  have c4 := cellI (nt := 25) hA hi (k := 4) rfl
  generalize l[i] = x at hx c4
  have hsk : skipB l i = decide (goK x = 1 ∧ x.imm = (i : Int) + 1) := by unfold skipB; rw [hx]
  refine call_val (vs := [In.val x]) rfl (fun W hW => goes84 x W (hG.keep hW.fresh')) fun v hv => ⟨.tup [.val (.bool (goK x == 1)), .val (.bool (goK x == 2))], by rw [hv]; simp [Is, IsL], ?_⟩
  (refine Y_go 600 ?_; dsimp only [zq8s, Y_k, zq4t, zq8n, zq6m, Nat.reduceBEq, zq6j, YK, zq5i, zq2f, nth, zq2e, zq6k, zq9h, normF, zq86, zq89, zq8c, zq9x, t86n0, T86n0, zq9q, zq9p, Y_gk, zq6c, YR, zq5b, zq1p, zq1g, Nat.reduceAdd, List.nil_append, zq1b, zq18, zq68, zq57, zq06, zq0w, zq59, zq16, zq1c, zq4v, zq8o, zq6p, zq04, zq91, zq9a, zq0e, zq4z, zq0i, zq9b, zq4u, zq6o, zq0b, zq9w, YS, zq6a, zq0c])
  rw [hi1]
  refine ⟨fun h1 => ⟨A, l.length, c, hP.cell rfl, ⟨by omega, by omega, someI hA hi⟩, someI hA hi, x.imm, c4, ((i : Int) + 1), .add64 (by omega) (by omega), ret_rule (vs := [_]) r86 rfl rfl fun W hW => hR _ _ ⟨?_, hW.fresh'⟩⟩, fun h1 => ret_rule (vs := [_]) r86 rfl rfl fun W hW => hR _ _ ⟨?_, hW.fresh'⟩⟩
  · have h1 : goK x = 1 := by simpa using h1
    rw [hsk]
    have : (x.imm == (i : Int) + 1) = decide (goK x = 1 ∧ x.imm = (i : Int) + 1) := by rw [Bool.eq_iff_iff]; simp [h1]
    rw [← this]; rfl
  · have h1 : goK x ≠ 1 := by simpa using h1
    rw [hsk]
    have : decide (goK x = 1 ∧ x.imm = (i : Int) + 1) = false := by simp [h1]
    rw [this]; rfl
theorem gone87 (i : Nat) (g : List Bool) (A : Option Addr) (c : Nat) (P : Option Addr) (w : World) (hP : RowAt w P [.slice A g.length c]) (hA : RowAt w A (bV g)) (hi : i < g.length) (hl : g.length ≤ 2000) :
    CallsV Tryz.prog 87 [.int .i64 (i : Int), .pointer P] w fun v w' => v = .bool (gB g i) ∧ Fresh w w' := by
  refine calls_go (keep := K87) (nt := 8) (svs := [.val (.int .i64 (i : Int)), .adr P 0]) Tryz.func87 x87 n87 (by simp) (by simp [IsL, Is]; cases P <;> simp [Addr.add]) fun R hR => ?_
  (refine Y_go 600 ?_; dsimp only [X87, numF, Nat.reduceAdd, zq9q, zq9p, Y_k, zq4t, zq8o, zq6o, YK, zq8s, zq9h, normF, zq6m, Nat.reduceBEq, zq6k, zq6j, zq89, zq8c, zq86, zq9x, t87n0, T87n0, zq5b, zq8n, zq1p, zq1g, List.nil_append, zq1b, zq18, zq57, zq06, zq0w, zq1d, zq9w])
  have hi1 : ((i : Nat) : Int).toNat = i := by omega
  refine ⟨A, g.length, c, hP.cell rfl, ⟨by omega, by omega, hA.isSome (j := i) (by rw [bV_len]; exact hi)⟩, gB g i, hA.cell (by rw [hi1, Nat.mul_one]; exact bV_get hi), ?_⟩
  exact ret_rule (vs := [_]) r87 rfl rfl fun W hW => hR _ _ ⟨rfl, hW.fresh'⟩
structure D85 where
  i : Nat
  A : Option Addr
  c : Nat
def lfL (gone : Nat → Bool) (n i : Nat) : List Int := (List.range (n + 1)).map fun k : Nat => if k ≤ i then (leftN gone k : Int) else 0
theorem lfL_len (gone : Nat → Bool) (n i : Nat) : (intsV (lfL gone n i)).length = n + 1 := by simp [intsV, lfL]
theorem lfL_get {gone : Nat → Bool} {n i k : Nat} (hk : k ≤ i) (hn : k ≤ n) : (intsV (lfL gone n i))[k]? = some (.int .i64 (leftN gone k : Nat)) := by
  simp [intsV, lfL, show k < n + 1 by omega, hk]
theorem lfL_zero (gone : Nat → Bool) (n : Nat) : repN (n + 1) [Value.int .i64 0] = intsV (lfL gone n 0) := by
  have : lfL gone n 0 = List.replicate (n + 1) 0 := by
    refine List.ext_getElem (by simp [lfL]) fun i h1 h2 => ?_
    simp only [lfL, List.getElem_map, List.getElem_range, List.getElem_replicate]
    split
    · rename_i h; obtain rfl : i = 0 := by omega
      rfl
    · rfl
  rw [this, intsV, List.map_replicate]
  clear this
  generalize n + 1 = m
  induction m with
  | zero => rfl
  | succ n ih => simp only [repN, List.replicate_succ, ih]; rfl
theorem lfL_set {gone : Nat → Bool} {n i : Nat} (hi : i < n) : setn (intsV (lfL gone n i)) (i + 1) (.int .i64 (leftN gone (i + 1) : Nat)) = intsV (lfL gone n (i + 1)) := by
  rw [setn_eq, intsV, ← List.map_set]
  unfold intsV
  congr 1
  refine List.ext_getElem (by simp [lfL]) fun k h1 h2 => ?_
  rw [List.getElem_set]
  simp only [lfL, List.getElem_map, List.getElem_range]
  split
  · rename_i e; subst e; simp
  · rename_i e
    by_cases hk : k ≤ i
    · rw [if_pos hk, if_pos (by omega)]
    · rw [if_neg hk, if_neg (by omega)]
theorem setn_twice (l : List Value) (i : Nat) (a b : Value) : setn (setn l i a) i b = setn l i b := by
  rw [setn_eq, setn_eq, setn_eq, List.set_set]
theorem setn_get {l : List Value} {i : Nat} (h : i < l.length) (a : Value) : (setn l i a)[i]? = some a := by
  rw [setn_eq, List.getElem?_set]; simp [h]
theorem drop85 (A : Option Addr) (c : Nat) (l : List In) (f : FuncId) (caps : List Value) (gone : Nat → Bool) (w : World) (hG : ShAt w) (hA : RowAt w A (cellsI l)) (hl : l.length ≤ 2000) (hok : fnOk Tryz.prog f = true)
    (hf : ∀ W, Fresh w W → ∀ i, i < l.length → CallsV Tryz.prog f ([.int .i64 (i : Int)] ++ caps) W fun v W' => v = .bool (gone i) ∧ Fresh W W') :
    CallsV Tryz.prog 85 [.slice A l.length c, .func (.func f) #[] caps.toArray] w fun v w' => World.ownsB w' w.heap.size 41 5 v (dropP gone l).length (cellsI (dropP gone l)) ∧ Fresh w w' := by
  refine calls_go (keep := K85) (nt := 79) (svs := [.val (.slice A l.length c), .val (.func (.func f) #[] caps.toArray)]) Tryz.func85 x85 n85 (by simp) (by simp [IsL, Is]) fun R hR => ?_
  (refine Y_go 600 ?_; dsimp only [X85, numF, Nat.reduceAdd, zq9q, zq9p, Y_k, zq4t, zq8o, zq6t, YK, zq8s, zq9h, normF, zq6m, Nat.reduceBEq, zq6k, zq6j, zq6l, zq85, zq86, zq9x, t85n18, T85n18, zq8n, zq54, zq0r, zq4v, zq6p, zq04, zq91, zq9a, zq0e, zq66, zq06, zq4s, List.length_nil, List.nil_append, zq8e, t85n17, T85n17, zq9s, zq9u])
  refine ⟨((l.length + 1 : Nat) : Int), ArOk.to (by omega) (by omega) (by omega), ⟨by omega, by omega, by omega, by omega⟩, fun g => ?_⟩
  have hn1 : ((l.length + 1 : Nat) : Int).toNat = l.length + 1 := by omega
  rw [hn1, lfL_zero gone]
  refine loop_go (α := Nat) (fun i => i ≤ l.length) (fun _ => ⟨w, w.heap.size, [], 79, []⟩) (fun i => { F := [(0, .val (.slice A l.length c)), (1, .val (.func (.func f) #[] caps.toArray)), (4, .val (.slice none 0 0)), (5, .own 0 0), (17, .val (.int .i64 l.length)), (18, .val (.int .i64 (i : Int)))], H := [.own 3 0 1 (some ⟨g, 0, none⟩) (l.length + 1) (l.length + 1) (intsV (lfL gone l.length i))] }) (fun i => l.length - i) (fun _ => rfl) ?start ?round
  case start =>
    intro a W rep
    exact ⟨0, Nat.zero_le _, rep.le (by (simp only [setn, List.nil_append, List.cons_append, leF, leH_nil, leH_cons, leF_nil, lk, scp, scpL, scpO, resF, resH, resO, resV, resVL, nth, Nat.reduceBEq, Nat.reduceLT, decide_true, decide_false, List.length, List.length_cons, List.length_nil, Nat.reduceAdd, Bool.and_self, Bool.and_true, and_true, true_and, numF] <;> try simp)) (by (simp only [setn, List.nil_append, List.cons_append, leF, leH_nil, leH_cons, leF_nil, lk, scp, scpL, scpO, resF, resH, resO, resV, resVL, nth, Nat.reduceBEq, Nat.reduceLT, decide_true, decide_false, List.length, List.length_cons, List.length_nil, Nat.reduceAdd, Bool.and_self, Bool.and_true, and_true, true_and, numF] <;> try simp))⟩
  case round =>
    intro i hi I again
    have hi : i ≤ l.length := hi
    have hll := lfL_len gone l.length i
    (refine Y_go 600 ?_; dsimp only [zq9x, t85n5, T85n5, zq9q, zq9p, Y_k, zq4z, zq8n, zq6m, Nat.reduceBEq, zq6k, zq6j, zq04, zq91, zq9a, zq0i, zq9d, YK, zq8s, zq9h, normF, zq6l, zq85, zq86, zq8e, t85n4, T85n4, zq9r, zq6g, zq8w, YC, zq9o, t85n3, T85n3, zq9s, zq4t, zq88, t85n2, T85n2, zq4v, zq8o, zq6p, zq0e, zq57, zq06, zq0y, nth, zq09, zq08, zq0v, zq5b, zq1q, zq1n, zq1c, List.nil_append, zq1b, zq18, zq5c, zq7t, zq72, zq0a, zq1y, zq1w, denL, den, zq1v, splice, setn, zq8r, t85n1, T85n1, zq9j, zq9t, popTo, zq6h, YP, t85n16, T85n16, zq6t, zq89, t85n15, T85n15, zq54, zq0r, zq9u])
    refine ⟨fun hlt => ?_, fun hge => ?_⟩
    · have hlt : i < l.length := by have := of_decide_eq_true hlt; omega
      have hi1 : ((i : Nat) : Int).toNat = i := by omega
      have hi2 : ((i : Int) + 1).toNat = i + 1 := by omega
      have hle := leftN_le gone i
      have hle1 := leftN_le gone (i + 1)
      refine ⟨_, .add64 (by omega) (by omega), ⟨by omega, by omega⟩, ((leftN gone i : Nat) : Int), by rw [hi1, Nat.mul_one]; exact lfL_get (Nat.le_refl _) hi, ⟨by omega, by omega⟩, by rw [hi2]; omega, ?_⟩
      refine callv_val (f := f) (fst := []) (caps := caps) (vs := [.int .i64 (i : Int)]) rfl hok rfl (R := fun v => v = .bool (gone i)) (fun W hW => hf W hW.fresh' i hlt) fun v hv => ⟨.val (.bool (gone i)), by rw [hv]; simp [Is], ?_⟩
      (refine Y_go 600 ?_; dsimp only [zq8s, Y_k, zq52, zq8n, zq6m, Nat.reduceBEq, zq6j, zq0o, YK, zq9h, normF, zq6k, zq6l, zq85, zq86, zq88, zq8e, zq9r, zq6g, zq8w, YC, zq9x, t85n0, T85n0, zq9p, zq4t, zq4v, zq8o, zq6p, zq04, zq91, zq9a, zq0e, zq57, zq06, zq0y, nth, zq09, zq08, zq0v, zq5b, zq1q, zq1n, zq1c, List.nil_append, zq1b, zq18, zq5c, zq7t, zq72, zq0a, zq1y, zq1w, denL, den, zq1v, splice, setn, zq8r, zqa0, zqa1, zq9o, zq89])
      have hb1 : i + 1 < (intsV (lfL gone l.length i)).length := by omega
      have nxt : ∀ xs, xs = setn (intsV (lfL gone l.length i)) (i + 1) (.int .i64 (leftN gone (i + 1) : Nat)) → ∀ F, leF 1 F [(0, .val (.slice A l.length c)), (1, .val (.func (.func f) #[] caps.toArray)), (4, .val (.slice none 0 0)), (5, .own 0 0), (17, .val (.int .i64 l.length)), (18, .val (.int .i64 ((i + 1 : Nat) : Int)))] → G (cxOf Tryz.prog Tryz.f85 K85 T85 R) ⟨w, w.heap.size, [], 79, []⟩ [.lend I, .blk 0, .code (.ref 16)] { F := F, H := [.own 3 0 1 (some ⟨g, 0, none⟩) (l.length + 1) (l.length + 1) xs] } := fun xs hxs F hF =>
        lend_rule fun a W rep => again (i + 1) (by show i + 1 ≤ _; omega) (by show l.length - (i + 1) < l.length - i; omega) a W (rep.le hF (by rw [hxs, lfL_set hlt]; (simp only [setn, List.nil_append, List.cons_append, leF, leH_nil, leH_cons, leF_nil, lk, scp, scpL, scpO, resF, resH, resO, resV, resVL, nth, Nat.reduceBEq, Nat.reduceLT, decide_true, decide_false, List.length, List.length_cons, List.length_nil, Nat.reduceAdd, Bool.and_self, Bool.and_true, and_true, true_and, numF] <;> try simp)))
      rw [hi2, Nat.mul_one]
      refine ⟨fun hb => ⟨((i : Int) + 1), .add64 (by omega) (by omega), ⟨by omega, by omega⟩, ((leftN gone i : Nat) : Int), by rw [hi2, Nat.mul_one]; exact setn_get hb1 _, ((leftN gone (i + 1) : Nat) : Int), ArOk.to ?_ (by omega) (by omega), ⟨by omega, by omega⟩, by rw [hi2, setn_eq, List.length_set]; omega, ((i + 1 : Nat) : Int), ArOk.to (by omega) (by omega) (by omega), nxt _ (by rw [hi2, Nat.mul_one, setn_twice]) _ (by (simp only [setn, List.nil_append, List.cons_append, leF, leH_nil, leH_cons, leF_nil, lk, scp, scpL, scpO, resF, resH, resO, resV, resVL, nth, Nat.reduceBEq, Nat.reduceLT, decide_true, decide_false, List.length, List.length_cons, List.length_nil, Nat.reduceAdd, Bool.and_self, Bool.and_true, and_true, true_and, numF] <;> try simp))⟩, fun hb => ⟨((i + 1 : Nat) : Int), ArOk.to (by omega) (by omega) (by omega), nxt _ ?_ _ (by (simp only [setn, List.nil_append, List.cons_append, leF, leH_nil, leH_cons, leF_nil, lk, scp, scpL, scpO, resF, resH, resO, resV, resVL, nth, Nat.reduceBEq, Nat.reduceLT, decide_true, decide_false, List.length, List.length_cons, List.length_nil, Nat.reduceAdd, Bool.and_self, Bool.and_true, and_true, true_and, numF] <;> try simp))⟩⟩
      · have : leftN gone (i + 1) = leftN gone i + 1 := leftN_step (by simpa using hb)
        omega
      · have : leftN gone (i + 1) = leftN gone i := by simp [leftN]; simpa using hb
        rw [this]
    · have hil : i = l.length := by have := of_decide_eq_false hge; omega
      subst hil
      (refine Y_go 600 ?_; dsimp only [zq9u])
      refine loop_go (α := D85) (fun y => y.i ≤ l.length) (fun _ => ⟨w, w.heap.size, [], 79, []⟩) (fun y => { F := [(0, .val (.slice A l.length c)), (1, .val (.func (.func f) #[] caps.toArray)), (4, .val (.slice none 0 0)), (5, .own 0 0), (7, .own 1 0), (41, .val (.slice A l.length c)), (42, .val (.int .i64 l.length)), (43, .val (.int .i64 (y.i : Int)))], H := [.own 3 0 1 (some ⟨g, 0, none⟩) (l.length + 1) (l.length + 1) (intsV (lfL gone l.length l.length)), .own 41 0 5 y.A (dropTo gone l y.i).length y.c (cellsI (dropTo gone l y.i))] }) (fun y => l.length - y.i) (fun _ => rfl) ?start2 ?round2
      case start2 =>
        intro a W rep
        refine ⟨⟨0, none, 0⟩, Nat.zero_le _, ?_⟩
        have rep1 := (rep.le (s' := { F := [(0, .val (.slice A l.length c)), (1, .val (.func (.func f) #[] caps.toArray)), (4, .val (.slice none 0 0)), (5, .own 0 0), (7, .val (.slice none 0 0)), (41, .val (.slice A l.length c)), (42, .val (.int .i64 l.length)), (43, .val (.int .i64 0))], H := [.own 3 0 1 (some ⟨g, 0, none⟩) (l.length + 1) (l.length + 1) (intsV (lfL gone l.length l.length))] }) (by (simp only [setn, List.nil_append, List.cons_append, leF, leH_nil, leH_cons, leF_nil, lk, scp, scpL, scpO, resF, resH, resO, resV, resVL, nth, Nat.reduceBEq, Nat.reduceLT, decide_true, decide_false, List.length, List.length_cons, List.length_nil, Nat.reduceAdd, Bool.and_self, Bool.and_true, and_true, true_and, numF] <;> try simp)) (by (simp only [setn, List.nil_append, List.cons_append, leF, leH_nil, leH_cons, leF_nil, lk, scp, scpL, scpO, resF, resH, resO, resV, resVL, nth, Nat.reduceBEq, Nat.reduceLT, decide_true, decide_false, List.length, List.length_cons, List.length_nil, Nat.reduceAdd, Bool.and_self, Bool.and_true, and_true, true_and, numF] <;> try simp))).adopt 7 41 5 rfl
        exact rep1.le (by (simp only [setn, List.nil_append, List.cons_append, leF, leH_nil, leH_cons, leF_nil, lk, scp, scpL, scpO, resF, resH, resO, resV, resVL, nth, Nat.reduceBEq, Nat.reduceLT, decide_true, decide_false, List.length, List.length_cons, List.length_nil, Nat.reduceAdd, Bool.and_self, Bool.and_true, and_true, true_and, numF] <;> try simp)) (by (simp only [setn, List.nil_append, List.cons_append, leF, leH_nil, leH_cons, leF_nil, lk, scp, scpL, scpO, resF, resH, resO, resV, resVL, nth, Nat.reduceBEq, Nat.reduceLT, decide_true, decide_false, List.length, List.length_cons, List.length_nil, Nat.reduceAdd, Bool.and_self, Bool.and_true, and_true, true_and, numF] <;> try simp); exact ⟨rfl, rfl⟩)
      case round2 =>
        rintro ⟨i, A2, c2⟩ hi I2 again2
        have hi : i ≤ l.length := hi
        have hdl := dropTo_len gone l i hi
        have hle := leftN_le gone i
        (refine Y_go 600 ?_; dsimp only [zq9x, t85n13, T85n13, zq9q, zq9p, Y_k, zq4z, zq8n, zq6m, Nat.reduceBEq, zq6k, zq6j, zq04, zq91, zq9a, zq0i, zq9d, YK, zq8s, zq9h, normF, zq6l, zq85, zq86, zq8e, t85n12, T85n12, zq9r, zq6g, zq8w, YC, zq9o, t85n11, T85n11, zq9s, zq4t, zq57, zq06, zq0w, zq5b, zq1p, zq1c, List.nil_append, List.cons_append, zq1b, zq17, zq5d, List.length_cons, List.length_nil, Nat.reduceAdd, List.map, zq6p, zq5c, zq7s, zq8k, zq72, zq8l, zq8j, zq0a, zq1x, nth, zq1t, dropL, takeL, zq1r, splice, setn, zq8r, zq88, zq8b, t85n10, T85n10, zq9j, zq9t, popTo, zq6h, YP, t85n14, T85n14, zq89, zq9w])
        refine ⟨fun hlt => ?_, fun hge => ?_⟩
        rotate_left
        · have hil : i = l.length := by have := of_decide_eq_false hge; omega
          subst hil
          exact ret_rule (vs := [_]) r85 rfl rfl fun W hW => hR _ _ ⟨hW.owns (i := 1) rfl, hW.fresh'⟩
        have hlt : i < l.length := by have := of_decide_eq_true hlt; omega
        have hi1 : ((i : Nat) : Int).toNat = i := by omega
        have hx : l[i]? = some l[i] := List.getElem?_eq_getElem hlt
        rw [hi1]
        refine ⟨⟨by omega, by omega, someI hA hlt⟩, _, cellI hA hlt (k := 0) rfl, _, cellI hA hlt (k := 1) rfl, _, cellI hA hlt (k := 2) rfl, _, cellI hA hlt (k := 3) rfl, _, cellI hA hlt (k := 4) rfl, fun gx => ?_⟩
        generalize l[i] = x at hx
        refine callv_val (f := f) (fst := []) (caps := caps) (vs := [.int .i64 (i : Int)]) rfl hok rfl (R := fun v => v = .bool (gone i)) (fun W hW => hf W hW.fresh' i hlt) fun v hv => ⟨.val (.bool (gone i)), by rw [hv]; simp [Is], ?_⟩
        (refine Y_go 600 ?_; dsimp only [zq8s, zq9h, normF, zq6m, Nat.reduceBEq, zq6k, zq6j, zq6l, zq85, zq86, zq88, zq8b, zq8e, zq9r, zq8n, zq6g, zq8w, YC, zq9t, popTo, zq6h, YP, zq9p, Y_k, zq4v, zq8o, zq6p, zq04, zq91, zq9a, zq0e, YK, zq4t, zqa1, zq9o, zq9x, t85n9, T85n9, zq9q, zq5b, zq1o, nth, zq1k, List.length_cons, List.length_nil, Nat.reduceAdd, dropL, takeL, zq19, zq17, zq9i])
        refine ⟨fun hb => ⟨((i + 1 : Nat) : Int), ArOk.to (by omega) (by omega) (by omega), ?_⟩, fun hb => ?_⟩
        · have e : dropTo gone l (i + 1) = dropTo gone l i := by simp [dropTo, hx, hb]
          exact lend_rule fun a W rep => again2 ⟨i + 1, A2, c2⟩ (by show i + 1 ≤ _; omega) (by show l.length - (i + 1) < l.length - i; omega) a W (rep.le (by (simp only [setn, List.nil_append, List.cons_append, leF, leH_nil, leH_cons, leF_nil, lk, scp, scpL, scpO, resF, resH, resO, resV, resVL, nth, Nat.reduceBEq, Nat.reduceLT, decide_true, decide_false, List.length, List.length_cons, List.length_nil, Nat.reduceAdd, Bool.and_self, Bool.and_true, and_true, true_and, numF] <;> try simp)) (by rw [e]; (simp only [setn, List.nil_append, List.cons_append, leF, leH_nil, leH_cons, leF_nil, lk, scp, scpL, scpO, resF, resH, resO, resV, resVL, nth, Nat.reduceBEq, Nat.reduceLT, decide_true, decide_false, List.length, List.length_cons, List.length_nil, Nat.reduceAdd, Bool.and_self, Bool.and_true, and_true, true_and, numF] <;> try simp)))
        have hcap : ((dropTo gone l i).length + 1 ≤ maxLen ∧ ((dropTo gone l i).length + 1) * 40 ≤ 140737488355328) := ⟨by simp only [maxLen]; omega, by omega⟩
        have fin : ∀ (y : In) (A3 : Option Addr) (c3 : Nat) (F : List (Nat × SV)) (H : List SO), adjI gone l.length x = y → leF 2 F [(0, .val (.slice A l.length c)), (1, .val (.func (.func f) #[] caps.toArray)), (4, .val (.slice none 0 0)), (5, .own 0 0), (7, .own 1 1), (41, .val (.slice A l.length c)), (42, .val (.int .i64 l.length)), (43, .val (.int .i64 ((i + 1 : Nat) : Int)))] → leH 2 H [.own 3 0 1 (some ⟨g, 0, none⟩) (l.length + 1) (l.length + 1) (intsV (lfL gone l.length l.length)), .own 41 1 5 A3 ((dropTo gone l i).length + 1) c3 (cellsI (dropTo gone l i) ++ y.cells)] → G (cxOf Tryz.prog Tryz.f85 K85 T85 R) ⟨w, w.heap.size, [], 79, []⟩ [.lend I2, .blk 2, .code (.ref 14)] { F := F, H := H } := by
          intro y A3 c3 F H hy hF hH
          have e : dropTo gone l (i + 1) = dropTo gone l i ++ [y] := by simp [dropTo, hx, hb, hy]
          refine lend_rule fun a W rep => again2 ⟨i + 1, A3, c3⟩ (by show i + 1 ≤ _; omega) (by show l.length - (i + 1) < l.length - i; omega) a W ((rep.le (s' := { F := [(0, .val (.slice A l.length c)), (1, .val (.func (.func f) #[] caps.toArray)), (4, .val (.slice none 0 0)), (5, .own 0 0), (7, .own 1 1), (41, .val (.slice A l.length c)), (42, .val (.int .i64 l.length)), (43, .val (.int .i64 ((i + 1 : Nat) : Int)))], H := [.own 3 0 1 (some ⟨g, 0, none⟩) (l.length + 1) (l.length + 1) (intsV (lfL gone l.length l.length)), .own 41 1 5 A3 ((dropTo gone l i).length + 1) c3 (cellsI (dropTo gone l i) ++ y.cells)] }) hF hH).res.le (by (simp only [setn, List.nil_append, List.cons_append, leF, leH_nil, leH_cons, leF_nil, lk, scp, scpL, scpO, resF, resH, resO, resV, resVL, nth, Nat.reduceBEq, Nat.reduceLT, decide_true, decide_false, List.length, List.length_cons, List.length_nil, Nat.reduceAdd, Bool.and_self, Bool.and_true, and_true, true_and, numF] <;> try simp)) ?_)
          rw [e, cellsI_app, List.length_append]
          (simp only [setn, List.nil_append, List.cons_append, leF, leH_nil, leH_cons, leF_nil, lk, scp, scpL, scpO, resF, resH, resO, resV, resVL, nth, Nat.reduceBEq, Nat.reduceLT, decide_true, decide_false, List.length, List.length_cons, List.length_nil, Nat.reduceAdd, Bool.and_self, Bool.and_true, and_true, true_and, numF] <;> try simp)
          simp [cellsI]
        refine call_val (vs := [In.val x]) rfl (fun W hW => goes84 x W (hG.keep hW.fresh')) fun v hv => ⟨.tup [.val (.bool (goK x == 1)), .val (.bool (goK x == 2))], by rw [hv]; simp [Is, IsL], ?_⟩
        (refine Y_go 600 ?_; dsimp only [zq8s, Y_k, zq4t, zq8n, zq6m, Nat.reduceBEq, zq6j, YK, zq5i, zq2f, nth, zq2e, zq6k, zq9h, normF, zq6l, zq85, zq89, zq88, zq86, zq8b, zq8e, zq9x, t85n7, T85n7, zq9q, zq9p, Y_gk, zq6d, YS, zq4u, zq8o, zq6n, zq0b, zq68, YR, zq59, zq14, Nat.reduceAdd, zq5b, zq1o, zq1k, List.length_cons, List.length_nil, dropL, takeL, zq19, zq18, zq54, zq0r, zq4z, zq04, zq91, zq9a, zq0i, zq9d, zq6o, zq9r, zq6g, zq8w, YC, t85n6, T85n6, zq57, zq06, zq0y, zq09, zq08, zq0v, zq1q, zq1n, zq1c, List.nil_append, zq1b, zq5c, zq7t, zq72, zq0a, zq1x, zq1t, zq1r, splice, setn, zq8r, t85n8, T85n8, zq17, zq5g, List.map, zq6p, repL, List.cons_append, zq23, Nat.reduceMul, zq7s, zq8k, zq8l, zq8j, zq20, zq24, zq26, zq5k, zq2v, zq2r, zq2q, zq2n, zq2j, zq2k, denL, den, zq2l, zq2h, zqa0, zq4v, zq0e, zqa1, zq9o, zq0c, zq6c, zq6a, zq6f])
        have him : goK x ≠ 0 → 0 ≤ x.imm ∧ x.imm ≤ 1024 := goK_imm
        have get : goK x ≠ 0 → x.imm < l.length → (intsV (lfL gone l.length l.length))[x.imm.toNat * 1]? = some (.int .i64 ((leftN gone x.imm.toNat : Nat) : Int)) := fun h1 h2 => by
          have := him h1
          rw [Nat.mul_one]; exact lfL_get (by omega) (by omega)
        have yes : goK x ≠ 0 → x.imm < l.length → adjI gone l.length x = { x with imm := (leftN gone x.imm.toNat : Nat) } := fun h1 h2 => by unfold adjI; rw [if_pos ⟨h1, h2⟩]
        have no : ¬ (goK x ≠ 0 ∧ x.imm < l.length) → adjI gone l.length x = x := fun h => by unfold adjI; rw [if_neg h]
        have k01 : goK x ≠ 1 → goK x ≠ 2 → goK x = 0 := by
          intro h1 h2
          unfold goK at h1 h2 ⊢
          split
          · split
            · simp_all
            · split
              · simp_all
              · rfl
          · rfl
        refine ⟨fun h1 => ⟨fun hm => ?_, fun hm => ?_⟩, fun h1 => ⟨fun h2 => ⟨fun hm => ?_, fun hm => ?_⟩, fun h2 => ?_⟩⟩
        · have h1 : goK x ≠ 0 := by have : goK x = 1 := by simpa using h1
                                    rw [this]; decide
          have hm := of_decide_eq_true hm
          have := him h1
          exact ⟨⟨this.1, by omega⟩, _, get h1 hm, fun g1 => ⟨hcap, fun A3 c3 => ⟨((i + 1 : Nat) : Int), ArOk.to (by omega) (by omega) (by omega), fin _ A3 c3 _ _ (yes h1 hm) (by (simp only [setn, List.nil_append, List.cons_append, leF, leH_nil, leH_cons, leF_nil, lk, scp, scpL, scpO, resF, resH, resO, resV, resVL, nth, Nat.reduceBEq, Nat.reduceLT, decide_true, decide_false, List.length, List.length_cons, List.length_nil, Nat.reduceAdd, Bool.and_self, Bool.and_true, and_true, true_and, numF] <;> try simp)) (by (simp only [setn, List.nil_append, List.cons_append, leF, leH_nil, leH_cons, leF_nil, lk, scp, scpL, scpO, resF, resH, resO, resV, resVL, nth, Nat.reduceBEq, Nat.reduceLT, decide_true, decide_false, List.length, List.length_cons, List.length_nil, Nat.reduceAdd, Bool.and_self, Bool.and_true, and_true, true_and, numF] <;> try simp); rfl)⟩⟩⟩
        · have hm := of_decide_eq_false hm
          exact fun g1 => ⟨hcap, fun A3 c3 => ⟨((i + 1 : Nat) : Int), ArOk.to (by omega) (by omega) (by omega), fin _ A3 c3 _ _ (no (fun h => hm h.2)) (by (simp only [setn, List.nil_append, List.cons_append, leF, leH_nil, leH_cons, leF_nil, lk, scp, scpL, scpO, resF, resH, resO, resV, resVL, nth, Nat.reduceBEq, Nat.reduceLT, decide_true, decide_false, List.length, List.length_cons, List.length_nil, Nat.reduceAdd, Bool.and_self, Bool.and_true, and_true, true_and, numF] <;> try simp)) (by (simp only [setn, List.nil_append, List.cons_append, leF, leH_nil, leH_cons, leF_nil, lk, scp, scpL, scpO, resF, resH, resO, resV, resVL, nth, Nat.reduceBEq, Nat.reduceLT, decide_true, decide_false, List.length, List.length_cons, List.length_nil, Nat.reduceAdd, Bool.and_self, Bool.and_true, and_true, true_and, numF] <;> try simp); rfl)⟩⟩
        · have h1 : goK x ≠ 0 := by have : goK x = 2 := by simpa using h2
                                    rw [this]; decide
          have hm := of_decide_eq_true hm
          have := him h1
          exact ⟨⟨this.1, by omega⟩, _, get h1 hm, fun g1 => ⟨hcap, fun A3 c3 => ⟨((i + 1 : Nat) : Int), ArOk.to (by omega) (by omega) (by omega), fin _ A3 c3 _ _ (yes h1 hm) (by (simp only [setn, List.nil_append, List.cons_append, leF, leH_nil, leH_cons, leF_nil, lk, scp, scpL, scpO, resF, resH, resO, resV, resVL, nth, Nat.reduceBEq, Nat.reduceLT, decide_true, decide_false, List.length, List.length_cons, List.length_nil, Nat.reduceAdd, Bool.and_self, Bool.and_true, and_true, true_and, numF] <;> try simp)) (by (simp only [setn, List.nil_append, List.cons_append, leF, leH_nil, leH_cons, leF_nil, lk, scp, scpL, scpO, resF, resH, resO, resV, resVL, nth, Nat.reduceBEq, Nat.reduceLT, decide_true, decide_false, List.length, List.length_cons, List.length_nil, Nat.reduceAdd, Bool.and_self, Bool.and_true, and_true, true_and, numF] <;> try simp); rfl)⟩⟩⟩
        · have hm := of_decide_eq_false hm
          exact fun g1 => ⟨hcap, fun A3 c3 => ⟨((i + 1 : Nat) : Int), ArOk.to (by omega) (by omega) (by omega), fin _ A3 c3 _ _ (no (fun h => hm h.2)) (by (simp only [setn, List.nil_append, List.cons_append, leF, leH_nil, leH_cons, leF_nil, lk, scp, scpL, scpO, resF, resH, resO, resV, resVL, nth, Nat.reduceBEq, Nat.reduceLT, decide_true, decide_false, List.length, List.length_cons, List.length_nil, Nat.reduceAdd, Bool.and_self, Bool.and_true, and_true, true_and, numF] <;> try simp)) (by (simp only [setn, List.nil_append, List.cons_append, leF, leH_nil, leH_cons, leF_nil, lk, scp, scpL, scpO, resF, resH, resO, resV, resVL, nth, Nat.reduceBEq, Nat.reduceLT, decide_true, decide_false, List.length, List.length_cons, List.length_nil, Nat.reduceAdd, Bool.and_self, Bool.and_true, and_true, true_and, numF] <;> try simp); rfl)⟩⟩
        · have h0 : goK x = 0 := k01 (by simpa using h1) (by simpa using h2)
          exact fun g1 => ⟨hcap, fun A3 c3 => ⟨((i + 1 : Nat) : Int), ArOk.to (by omega) (by omega) (by omega), fin _ A3 c3 _ _ (no (fun h => h.1 h0)) (by (simp only [setn, List.nil_append, List.cons_append, leF, leH_nil, leH_cons, leF_nil, lk, scp, scpL, scpO, resF, resH, resO, resV, resVL, nth, Nat.reduceBEq, Nat.reduceLT, decide_true, decide_false, List.length, List.length_cons, List.length_nil, Nat.reduceAdd, Bool.and_self, Bool.and_true, and_true, true_and, numF] <;> try simp)) (by (simp only [setn, List.nil_append, List.cons_append, leF, leH_nil, leH_cons, leF_nil, lk, scp, scpL, scpO, resF, resH, resO, resV, resVL, nth, Nat.reduceBEq, Nat.reduceLT, decide_true, decide_false, List.length, List.length_cons, List.length_nil, Nat.reduceAdd, Bool.and_self, Bool.and_true, and_true, true_and, numF] <;> try simp); rfl)⟩⟩
end Go.Proofs.YtlbiogokpadaoaaGreatDoor
