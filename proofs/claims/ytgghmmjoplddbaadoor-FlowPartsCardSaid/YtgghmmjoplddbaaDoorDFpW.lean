/- FlowParts: the statement, walked. -/
import Derived.Test.YtgghmmjoplddbaaDoorFlSteps
import Derived.Test.YtgghmmjoplddbaaDoorDFlWr
import Derived.Test.YtgghmmjoplddbaaDoorDRpW1
import Derived.Test.YtgghmmjoplddbaaDoorDFlSame
import Derived.Test.YtgghmmjoplddbaaDoorSxGhost
import Derived.Test.YtgghmmjoplddbaaDoorDFlCodeP
set_option linter.unusedSimpArgs false
set_option linter.unusedVariables false
set_option linter.unnecessarySimpa false
namespace Go.Proofs.YtgghmmjoplddbaaDoor
open Go Go.Sx Go.Isa
set_option maxRecDepth 100000
theorem pr_cells {w : World} {A : Option Addr} {ps : List PR} {i : Nat} {p : PR} {nt : Nat} (h : RowAt w A (cellsR ps)) (hp : ps[i]? = some p) : CellAt ⟨w, w.heap.size, [], nt, []⟩ A (i * 3) (.int .i64 p.pa.fr) ∧ CellAt ⟨w, w.heap.size, [], nt, []⟩ A (i * 3 + 1) (.int .i64 p.pa.to) ∧ CellAt ⟨w, w.heap.size, [], nt, []⟩ A (i * 3 + 2) (.slice p.A p.pa.nx.length p.c) ∧ A.isSome = true := by
 have q : CellAt ⟨w, w.heap.size, [], nt, []⟩ A (i * 3) (.int .i64 p.pa.fr) := h.cell (by have := cellsR_get (k := 0) hp (by omega); rw [Nat.add_zero] at this; rw [this]; rfl)
 exact ⟨q, h.cell (by rw [cellsR_get hp (by omega)]; rfl), h.cell (by rw [cellsR_get hp (by omega)]; rfl), by obtain ⟨a, h, _⟩ := q; rw [h]; rfl⟩
theorem sameP (ps qs : List PR) (A B : Option Addr) (c d : Nat) (w : World) (hl : ps.length ≤ 100000) (hnl : ∀ p ∈ ps, p.pa.nx.length ≤ 2) (h : ps.map PR.pa = qs.map PR.pa) (hA : RowAt w A (cellsR ps)) (hB : RowAt w B (cellsR qs)) (hN : NxAt w ps) (hM : NxAt w qs) :
  CallsV Tryd.prog 9 [.slice A ps.length c, .slice B qs.length d] w fun v w' => v = .bool true ∧ Fresh w w' := by
 have hlen : qs.length = ps.length := by have := congrArg List.length h; simp at this; exact this.symm
 rw [hlen]
 refine calls_go (keep := K9) (nt := 84) (svs := [.val (.slice A ps.length c), .val (.slice B ps.length d)]) Tryd.func9 x9 n9 (by simp) (by simp [IsL, Is]) fun R hR => ?_
 (refine Y_go 600 ?_; dsimp only [X9, numF, Nat.reduceAdd, zq9r, zq9q, Y_k, zq4u, zq8p, zq6p, YK, zq8t, zq9i, normF, zq6n, Nat.reduceBEq, zq6l, zq6k, zq6m, zq86, zq8a, zq87, zq9y, t9n12, T9n12, zq8o, zq55, zq0r, zq50, zq04, zq92, zq9b, zq0i, zq9d, zq9s, zq6h, zq8x, YC, t9n0, T9n0, zq89, zq9x, zq9p, t9n11, T9n11, zq6q, zq9t, zq9v])
 refine ⟨fun h => absurd h (by simp), fun _ => ?_⟩
 refine loop_go (α := Nat) (fun i => i ≤ ps.length) (fun _ => ⟨w, w.heap.size, [], 84, []⟩) (fun i => { F := [(0, .val (.slice A ps.length c)), (1, .val (.slice B ps.length d)), (5, .val (.int .i64 (i : Int)))], H := [] }) (fun i => ps.length - i) (fun _ => rfl) ?start ?round
 case start =>
  intro a W rep
  exact ⟨0, Nat.zero_le _, rep.le (by (simp only [setn, List.nil_append, List.cons_append, leF, leH_nil, leH_cons, leF_nil, lk, scp, scpL, scpO, resF, resH, resO, resV, resVL, nth, Nat.reduceBEq, Nat.reduceLT, decide_true, decide_false, List.length, List.length_cons, List.length_nil, Nat.reduceAdd, Bool.and_self, Bool.and_true, and_true, true_and, numF] <;> try simp)) (by (simp only [setn, List.nil_append, List.cons_append, leF, leH_nil, leH_cons, leF_nil, lk, scp, scpL, scpO, resF, resH, resO, resV, resVL, nth, Nat.reduceBEq, Nat.reduceLT, decide_true, decide_false, List.length, List.length_cons, List.length_nil, Nat.reduceAdd, Bool.and_self, Bool.and_true, and_true, true_and, numF] <;> try simp))⟩
 case round =>
  intro i hi I again
  have hi : i ≤ ps.length := hi
  have hi1 : ((i : Nat) : Int).toNat = i := by omega
  (refine Y_go 600 ?_; dsimp only [zq9y, t9n9, T9n9, zq9r, zq9q, Y_k, zq4u, zq8o, zq6n, Nat.reduceBEq, zq6l, zq6k, YK, zq8t, zq55, zq0r, zq50, zq04, zq92, zq9b, zq0i, zq9e, zq9i, normF, zq6m, zq86, zq87, zq9s, zq6h, zq8x, YC, zq9p, t9n8, T9n8, zq9t, zq58, zq06, zq0w, zq5a, zq16, Nat.add_zero, zq5c, zq1p, zq1c, List.nil_append, zq1b, zq18, zq9d, Y_gk, zq6e, YS, zq6a, zq4v, zq8p, zq6o, zq0b, zq89, zq6f, t9n1, T9n1, zq6p, zq8a, zq9x, YR, zq6c, zq0c, zq1g, t9n6, T9n6, zq6q, zq9v, zq9u, popTo, zq6i, YP, t9n10, T9n10])
  refine ⟨fun hlt => ?_, fun _ => ret_rule (vs := [.bool true]) r9 rfl rfl fun W hW => hR _ _ ⟨rfl, hW.fresh'⟩⟩
  have hlt : i < ps.length := by have := of_decide_eq_true hlt; omega
  have hp : ps[i]? = some ps[i] := List.getElem?_eq_getElem hlt
  have hq : qs[i]? = some (qs[i]'(by omega)) := List.getElem?_eq_getElem (by omega)
  have hpq : (ps[i]).pa = (qs[i]'(by omega)).pa := by
   have := congrArg (fun z => z[i]?) h
   simp only [List.getElem?_map, hp, hq, Option.map_some] at this
   injection this
  generalize ps[i] = p at hp hpq
  generalize (qs[i]'(by omega)) = q at hq hpq
  have hpm := List.mem_of_getElem? hp
  have hqm := List.mem_of_getElem? hq
  obtain ⟨a1, a2, a3, sA⟩ := pr_cells (nt := 84) hA hp
  obtain ⟨b1, b2, b3, sB⟩ := pr_cells (nt := 84) hB hq
  have kp := hN p hpm
  have kq := hM q hqm
  have hn2 := hnl p hpm
  obtain ⟨qa, qA, qc⟩ := q
  simp only at hpq b1 b2 b3 kq
  subst hpq
  have bdA : (0 : Int) ≤ (i : Int) ∧ (i : Int) < (ps.length : Int) ∧ A.isSome = true := ⟨by omega, by omega, sA⟩
  have bdB : (0 : Int) ≤ (i : Int) ∧ (i : Int) < (ps.length : Int) ∧ B.isSome = true := ⟨by omega, by omega, sB⟩
  rw [hi1]
  refine ⟨bdA, sA, _, a1, bdB, sB, _, b1, fun h => absurd h (by simp), fun _ => ⟨bdA, sA, _, a2, bdB, sB, _, b2, fun h => absurd h (by simp), fun _ => ⟨bdA, sA, _, _, _, a3, bdB, sB, _, _, _, b3, fun h => absurd h (by simp), fun _ => ?_⟩⟩⟩
  refine loop_go (α := Nat) (fun k => k ≤ p.pa.nx.length) (fun _ => ⟨w, w.heap.size, [], 84, []⟩) (fun k => { F := [(0, .val (.slice A ps.length c)), (1, .val (.slice B ps.length d)), (5, .val (.int .i64 (i : Int))), (6, .val (.int .i64 (k : Int)))], H := [] }) (fun k => p.pa.nx.length - k) (fun _ => rfl) ?start2 ?round2
  case start2 =>
   intro a W rep
   exact ⟨0, Nat.zero_le _, rep.le (by (simp only [setn, List.nil_append, List.cons_append, leF, leH_nil, leH_cons, leF_nil, lk, scp, scpL, scpO, resF, resH, resO, resV, resVL, nth, Nat.reduceBEq, Nat.reduceLT, decide_true, decide_false, List.length, List.length_cons, List.length_nil, Nat.reduceAdd, Bool.and_self, Bool.and_true, and_true, true_and, numF] <;> try simp)) (by (simp only [setn, List.nil_append, List.cons_append, leF, leH_nil, leH_cons, leF_nil, lk, scp, scpL, scpO, resF, resH, resO, resV, resVL, nth, Nat.reduceBEq, Nat.reduceLT, decide_true, decide_false, List.length, List.length_cons, List.length_nil, Nat.reduceAdd, Bool.and_self, Bool.and_true, and_true, true_and, numF] <;> try simp))⟩
  case round2 =>
   intro k hk I2 again2
   have hk : k ≤ p.pa.nx.length := hk
   have hk1 : ((k : Nat) : Int).toNat = k := by omega
   (refine Y_go 600 ?_; dsimp only [zq9y, t9n5, T9n5, zq9r, zq9q, Y_k, zq4u, zq8o, zq6n, Nat.reduceBEq, zq6l, zq6k, YK, zq8t, zq58, zq06, zq0w, zq5a, zq16, zq5c, zq1p, zq1g, List.nil_append, zq1b, zq18, zq55, zq0r, zq50, zq04, zq92, zq9b, zq0i, zq9e, zq9i, normF, zq6m, zq86, zq87, zq9s, zq6h, zq8x, YC, zq9p, t9n4, T9n4, zq9t, zq1c, zq9d, zq89, t9n2, T9n2, zq8p, zq6p, zq8a, zq9x, zqa1, t9n3, T9n3, zq4w, zq6q, zq0e, zqa2, zq9u, popTo, zq6i, YP, t9n7, T9n7])
   rw [hi1]
   refine ⟨bdA, sA, _, _, _, a3, fun hlt2 => ?_, fun _ => ⟨((i + 1 : Nat) : Int), ArOk.to (by omega) (by omega) (by omega), lend_rule fun a W rep => again (i + 1) (by show i + 1 ≤ _; omega) (by show _ - (i + 1) < _ - i; omega) a W (rep.le (by (simp only [setn, List.nil_append, List.cons_append, leF, leH_nil, leH_cons, leF_nil, lk, scp, scpL, scpO, resF, resH, resO, resV, resVL, nth, Nat.reduceBEq, Nat.reduceLT, decide_true, decide_false, List.length, List.length_cons, List.length_nil, Nat.reduceAdd, Bool.and_self, Bool.and_true, and_true, true_and, numF] <;> try simp)) (by (simp only [setn, List.nil_append, List.cons_append, leF, leH_nil, leH_cons, leF_nil, lk, scp, scpL, scpO, resF, resH, resO, resV, resVL, nth, Nat.reduceBEq, Nat.reduceLT, decide_true, decide_false, List.length, List.length_cons, List.length_nil, Nat.reduceAdd, Bool.and_self, Bool.and_true, and_true, true_and, numF] <;> try simp)))⟩⟩
   have hlt2 : k < p.pa.nx.length := by have := of_decide_eq_true hlt2; omega
   have hz : p.pa.nx[k]? = some p.pa.nx[k] := List.getElem?_eq_getElem hlt2
   generalize p.pa.nx[k] = z at hz
   have c1 : CellAt ⟨w, w.heap.size, [], 84, []⟩ p.A (k * 1) (.int .i64 z) := kp.cell (by rw [Nat.mul_one]; exact isV_get _ _ _ hz)
   have c2 : CellAt ⟨w, w.heap.size, [], 84, []⟩ qA (k * 1) (.int .i64 z) := kq.cell (by rw [Nat.mul_one]; exact isV_get _ _ _ hz)
   have s1 : p.A.isSome = true := by obtain ⟨a, h, _⟩ := c1; rw [h]; rfl
   have s2 : qA.isSome = true := by obtain ⟨a, h, _⟩ := c2; rw [h]; rfl
   rw [hk1]
   exact ⟨bdA, sA, _, _, _, a3, ⟨by omega, by omega, s1⟩, z, c1, bdB, sB, _, _, _, b3, ⟨by omega, by omega, s2⟩, z, c2, fun h => absurd h (by simp), fun _ => ⟨((k + 1 : Nat) : Int), ArOk.to (by omega) (by omega) (by omega), lend_rule fun a W rep => again2 (k + 1) (by show k + 1 ≤ _; omega) (by show _ - (k + 1) < _ - k; omega) a W (rep.le (by (simp only [setn, List.nil_append, List.cons_append, leF, leH_nil, leH_cons, leF_nil, lk, scp, scpL, scpO, resF, resH, resO, resV, resVL, nth, Nat.reduceBEq, Nat.reduceLT, decide_true, decide_false, List.length, List.length_cons, List.length_nil, Nat.reduceAdd, Bool.and_self, Bool.and_true, and_true, true_and, numF] <;> try simp)) (by (simp only [setn, List.nil_append, List.cons_append, leF, leH_nil, leH_cons, leF_nil, lk, scp, scpL, scpO, resF, resH, resO, resV, resVL, nth, Nat.reduceBEq, Nat.reduceLT, decide_true, decide_false, List.length, List.length_cons, List.length_nil, Nat.reduceAdd, Bool.and_self, Bool.and_true, and_true, true_and, numF] <;> try simp)))⟩⟩
theorem part_at {l : List In} {i : Nat} {x : Int} {p : Int} (hx : (bgL l)[i]? = some x) (h1 : x ≤ p) (h2 : p < toL l.length (bgL l) i) : 0 ≤ p ∧ p < l.length ∧ atL l p.toNat = i := by
 have hr := bgL_range (List.mem_of_getElem? hx)
 have ht := toL_range hx
 have hp : (p.toNat : Int) = p := by omega
 refine ⟨by omega, by omega, ?_⟩
 unfold atL
 rw [hp]
 have h3 : i < posI (bgL l) (p + 1) := (posI_below (bgL_up l) hx).2 (by omega)
 have h4 : posI (bgL l) (p + 1) ≤ i + 1 := by
  refine Nat.le_of_not_lt fun h => ?_
  have h5 := posI_le (bgL l) (p + 1)
  have hy : (bgL l)[i + 1]? = some (bgL l)[i + 1] := List.getElem?_eq_getElem (by omega)
  have h6 := (posI_below (bgL_up l) hy).1 h
  unfold toL at h2
  rw [hy] at h2
  simp only [Option.getD_some] at h2
  omega
 omega
def insB (l : List In) (p : Int) : Bool := decide (0 ≤ p) && decide (p < l.length)
def wantI (l : List In) (p : Int) (i : Nat) : Int := if insB l p = true ∧ atL l p.toNat < i then (atL l p.toNat : Int) else 0
theorem law3 (l : List In) (B : Option Addr) (bc : Nat) (p : Int) (w : World) (hB : RowAt w B (cellsI l)) (hp : is64 p) (hG : ShAt w) :
  CallsV Tryd.prog 3 [.slice B l.length bc, .int .i64 p] w fun v w' => Fresh w w' ∧ v = .bool true := by
 refine calls_go (keep := K3) (nt := 113) (svs := [.val (.slice B l.length bc), .val (.int .i64 p)]) Tryd.func3 x3 n3 (by simp) (by simp [IsL, Is]) fun R hR => ?_
 (refine Y_go 600 ?_; dsimp only [X3, numF, Nat.reduceAdd, zq9r, zq9q, Y_k, zq4u, zq8p, zq6p, YK, zq8t, zq9i, normF, zq6n, Nat.reduceBEq, zq6l, zq6k, zq6m, zq86, zq8a, zq87, zq9y, t3n14, T3n14, zq8o, zq55, zq0r, zq50, zq6q, zq04, zq92, zq9b, zq0i, zq9g, zq9s, zq6h, zq8x, YC, t3n1, T3n1, zq9j, zq9p, t3n13, T3n13, zq5h, List.map, repL, zq24, zq26, List.length_nil, List.nil_append, zq5l, zq2x, nth, zq2u, Nat.reduceMul, denL, zq2t, zq2r, zq2o, zq2i, List.length_cons, setn, List.cons_append, zq8f, t3n12, T3n12])
 refine ⟨fun h => ?_, fun h => fun g => ?_⟩
 ·have h := of_decide_eq_true h
  by_cases hb : 1024 < l.length
  ·refine call_val (vs := [.slice B l.length bc]) rfl (fun W hW => parts17_big l.length B bc W hb) fun v hv => ⟨.tup [.val (.slice none 0 0), .val (.int .i64 2)], by rw [hv]; simp [Is, IsL], ?_⟩
   (refine Y_go 600 ?_; dsimp only [zq8t, Y_k, zq4u, zq8o, zq6n, Nat.reduceBEq, zq6k, YK, zq5j, zq2f, nth, zq2e, zq6l, zq9i, normF, zq6m, zq86, zq89, zq87, zq8a, zq9y, t3n0, T3n0, zq9r, zq9q, zq50, zq8p, zq6q, zq04, zq92, zq9b, zq0i, zq9c, zq55, zq0r, zq9g, zq51, zq8w, zq0k, zq9x])
   refine ret_rule (vs := [.bool true]) r3 rfl ?_ fun W hW => hR _ _ ⟨hW.fresh', rfl⟩
   have : decide ((l.length : Int) > 1024) = true := by simp; omega
   simp [denAll, lk, den, this]
  ·refine call_base (vs := [.slice B l.length bc]) rfl (R := fun W v W' => ∃ u, v = .tuple #[u, .int .i64 0] ∧ PartsR l W u W') (fun W hW => parts17 l B bc W (by omega) (hB.keep hW.fresh') (hG.keep hW.fresh')) (fun _ _ _ h => by obtain ⟨_, _, _, _, _, _, _, _, _, _, h⟩ := h; exact h) fun W2 v W3 hW2 ⟨u, hv, pA, pc, ps, hu, k1, k2, k3, _, k4⟩ _ => ?_
   subst hv; subst hu
   have hw2 : Fresh w W3 := Fresh.tr hW2.fresh' k4
   refine ⟨.tup [.val (.slice pA ps.length pc), .val (.int .i64 0)], by simp [Is, IsL], ?_⟩
   rw [show fps ([] : List SO) = [] from rfl]
   (refine Y_go 600 ?_; dsimp only [zq8t, Y_k, zq4u, zq8o, zq6n, Nat.reduceBEq, zq6k, YK, zq5j, zq2f, nth, zq2e, zq6l, zq9i, normF, zq6m, zq86, zq89, zq87, zq8a, zq9y, t3n0, T3n0, zq9r, zq9q, zq50, zq8p, zq6q, zq04, zq92, zq9b, zq0i, zq9c, zq55, zq0r, zq9g, zq51, zq8w, zq0k, zq9x])
   refine ret_rule (vs := [.bool true]) r3 rfl ?_ fun W hW => hR _ _ ⟨Fresh.tr hw2 hW.fresh', rfl⟩
   have : decide ((l.length : Int) > 1024) = false := by simp; omega
   simp [denAll, lk, den, this]
 ·have hl : l.length ≤ 300 := by have := of_decide_eq_false h; omega
  have hrd := hB.rd (nt := 113) (oneI l)
  rw [cellsI_len] at hrd
  refine ⟨cellsI l, hrd, ⟨by simp only [maxLen]; omega, by omega⟩, fun oA oC => ?_⟩
  rw [Nat.zero_add]
  refine G.free (F' := [(34, .val (.slice oA l.length oC)), (0, .val (.slice B l.length bc)), (1, .val (.int .i64 p)), (7, .val (.slice oA l.length oC))]) (fun a W rep => ((rep.plain 7 (i := 1) rfl rfl).plain 34 (i := 1) rfl rfl).le (by (simp only [setn, List.nil_append, List.cons_append, leF, leH_nil, leH_cons, leF_nil, lk, scp, scpL, scpO, resF, resH, resO, resV, resVL, nth, Nat.reduceBEq, Nat.reduceLT, decide_true, decide_false, List.length, List.length_cons, List.length_nil, Nat.reduceAdd, Bool.and_self, Bool.and_true, and_true, true_and, numF] <;> try simp)) (by (simp only [setn, List.nil_append, List.cons_append, leF, leH_nil, leH_cons, leF_nil, lk, scp, scpL, scpO, resF, resH, resO, resV, resVL, nth, Nat.reduceBEq, Nat.reduceLT, decide_true, decide_false, List.length, List.length_cons, List.length_nil, Nat.reduceAdd, Bool.and_self, Bool.and_true, and_true, true_and, numF] <;> try simp))) (fun a W rep => rep.le (by (simp only [setn, List.nil_append, List.cons_append, leF, leH_nil, leH_cons, leF_nil, lk, scp, scpL, scpO, resF, resH, resO, resV, resVL, nth, Nat.reduceBEq, Nat.reduceLT, decide_true, decide_false, List.length, List.length_cons, List.length_nil, Nat.reduceAdd, Bool.and_self, Bool.and_true, and_true, true_and, numF] <;> try simp)) (by (simp only [setn, List.nil_append, List.cons_append, leF, leH_nil, leH_cons, leF_nil, lk, scp, scpL, scpO, resF, resH, resO, resV, resVL, nth, Nat.reduceBEq, Nat.reduceLT, decide_true, decide_false, List.length, List.length_cons, List.length_nil, Nat.reduceAdd, Bool.and_self, Bool.and_true, and_true, true_and, numF] <;> try simp))) fun W0 hW0 ov0 => ?_
  have ho0 := (hW0.rowOff (H1 := []) (i := 1) rfl 113 [])
  have hw0 : Fresh w W0 := (HeapOk.fresh' (nt := 113) (mk := []) (H := [SO.gone g, SO.own 37 0 5 oA l.length oC (cellsI l)]) hW0)
  have rB0 : RowAt W0 B (cellsI l) := hB.keep hw0
  have rO0 : RowAt W0 oA (cellsI l) := ho0.at (heapOk_nil (Nat.le_refl _) [] 113 [])
  have gG0 : ShAt W0 := hG.keep hw0
  clear hW0 ov0 ho0
  show G (cxOf Tryd.prog Tryd.f3 K3 T3 R) ⟨W0, W0.heap.size, [], 113, []⟩ _ _
  refine call_base (vs := [.slice oA l.length oC]) rfl (R := fun W v W' => ∃ u, v = .tuple #[u, .int .i64 0] ∧ PartsR l W u W') (fun W hW => parts17 l oA oC W (by omega) (rO0.keep hW.fresh') (gG0.keep hW.fresh')) (fun _ _ _ h => by obtain ⟨_, _, _, _, _, _, _, _, _, _, h⟩ := h; exact h) fun W2 v W3 hW2 ⟨u, hv, pA, pc, ps, hu, k1, k2, k3, _, k4⟩ _ => ?_
  subst hv; subst hu
  have hw3 : Fresh W0 W3 := Fresh.tr hW2.fresh' k4
  have rP3 : RowAt W3 pA (cellsR ps) := .of_own k2 rfl
  refine ⟨.tup [.val (.slice pA ps.length pc), .val (.int .i64 0)], by simp [Is, IsL], ?_⟩
  rw [show fps ([] : List SO) = [] from rfl]
  (refine Y_go 600 ?_; dsimp only [zq8t, Y_k, zq4u, zq8o, zq6n, Nat.reduceBEq, zq6k, YK, zq5j, zq2f, nth, zq2e, zq6l, zq9i, normF, zq6m, zq86, zq87, zq9y, t3n11, T3n11, zq9r, zq9q, zq9j])
  refine call_base (vs := [.slice B l.length bc]) rfl (R := fun W v W' => PartsR l W v W') (fun W hW => parts89 l B bc W (by omega) ((rB0.keep hw3).keep hW.fresh')) (fun _ _ _ h => by obtain ⟨_, _, _, _, _, _, _, _, h⟩ := h; exact h) fun W4 v W5 hW4 ⟨qA, qc, qs, hv, j1, j2, j3, _, j4⟩ _ => ?_
  subst hv
  have hw5 : Fresh W3 W5 := Fresh.tr hW4.fresh' j4
  have rQ : RowAt W5 qA (cellsR qs) := .of_own j2 rfl
  have rP : RowAt W5 pA (cellsR ps) := rP3.keep hw5
  have nP : NxAt W5 ps := k3.keep hw5
  have rB : RowAt W5 B (cellsI l) := (rB0.keep hw3).keep hw5
  have rO : RowAt W5 oA (cellsI l) := (rO0.keep hw3).keep hw5
  have gG : ShAt W5 := (gG0.keep hw3).keep hw5
  have hw : Fresh w W5 := Fresh.tr (Fresh.tr hw0 hw3) hw5
  clear rB0 rO0 gG0 hw3 hw5 rP3 k2 k3 k4 j2 j4 hW2 hW4
  refine ⟨.val (.slice qA qs.length qc), by simp [Is], ?_⟩
  rw [show fps ([] : List SO) = [] from rfl]
  (refine Y_go 600 ?_; dsimp only [zq8t, Y_k, zq4u, zq8o, zq6n, Nat.reduceBEq, zq6k, YK, zq9i, normF, zq6l, zq6m, zq86, zq87, zq9y, t3n10, T3n10, zq9r, zq9q, zq9j])
  have hpl := partsR_len k1
  have hql := partsR_len j1
  have hbn := bgL_len l
  have hat := fun W (hW : HeapOk ⟨W5, W5.heap.size, [], 113, []⟩ [] W) => at23 l oA oC p W (rO.keep hW.fresh') (gG.keep hW.fresh') hp
  have hae : atE l.length p = insB l p := by unfold atE insB; rw [show decide (l.length ≤ 1024) = true by simp; omega]; rfl
  have fin : ∀ F, leF 0 F [(0, .val (.slice B l.length bc)), (1, .val (.int .i64 p)), (7, .val (.slice oA l.length oC)), (8, .val (.slice pA ps.length pc)), (9, .val (.int .i64 0)), (10, .val (.slice qA qs.length qc)), (11, .val (.int .i64 (if insB l p = true then (atL l p.toNat : Int) else 0))), (12, .val (.int .i64 (if insB l p = true then 0 else 2)))] →
    G (cxOf Tryd.prog Tryd.f3 K3 T3 R) ⟨W5, W5.heap.size, [], 113, []⟩ [.code (.ref 9)] { F := F, H := [] } := by
   intro F hF
   refine G.le (E' := ⟨W5, W5.heap.size, [], 113, []⟩) rfl (s' := { F := [(0, .val (.slice B l.length bc)), (1, .val (.int .i64 p)), (7, .val (.slice oA l.length oC)), (8, .val (.slice pA ps.length pc)), (9, .val (.int .i64 0)), (10, .val (.slice qA qs.length qc)), (11, .val (.int .i64 (if insB l p = true then (atL l p.toNat : Int) else 0))), (12, .val (.int .i64 (if insB l p = true then 0 else 2)))], H := [] }) (fun a W rep => rep.le hF (by (simp only [setn, List.nil_append, List.cons_append, leF, leH_nil, leH_cons, leF_nil, lk, scp, scpL, scpO, resF, resH, resO, resV, resVL, nth, Nat.reduceBEq, Nat.reduceLT, decide_true, decide_false, List.length, List.length_cons, List.length_nil, Nat.reduceAdd, Bool.and_self, Bool.and_true, and_true, true_and, numF] <;> try simp))) ?_
   (refine Y_go 600 ?_; dsimp only [zq9y, t3n9, T3n9, zq9r, zq9q, Y_k, zq4u, zq8p, zq6q, YK, zq8t, zq9i, normF, zq6n, Nat.reduceBEq, zq6l, zq6k, zq6m, zq86, zq87, t3n8, T3n8, zq9t, zq9v])
   refine loop_go (α := Nat) (fun i => i ≤ qs.length) (fun _ => ⟨W5, W5.heap.size, [], 113, []⟩) (fun i => { F := [(0, .val (.slice B l.length bc)), (1, .val (.int .i64 p)), (7, .val (.slice oA l.length oC)), (8, .val (.slice pA ps.length pc)), (9, .val (.int .i64 0)), (10, .val (.slice qA qs.length qc)), (11, .val (.int .i64 (if insB l p = true then (atL l p.toNat : Int) else 0))), (12, .val (.int .i64 (if insB l p = true then 0 else 2))), (13, .val (.int .i64 (wantI l p i))), (14, .val (.int .i64 (i : Int)))], H := [] }) (fun i => qs.length - i) (fun _ => rfl) ?start ?round
   case start =>
    intro a W rep
    exact ⟨0, Nat.zero_le _, rep.le (by rw [show wantI l p 0 = 0 by unfold wantI; simp]; (simp only [setn, List.nil_append, List.cons_append, leF, leH_nil, leH_cons, leF_nil, lk, scp, scpL, scpO, resF, resH, resO, resV, resVL, nth, Nat.reduceBEq, Nat.reduceLT, decide_true, decide_false, List.length, List.length_cons, List.length_nil, Nat.reduceAdd, Bool.and_self, Bool.and_true, and_true, true_and, numF] <;> try simp)) (by (simp only [setn, List.nil_append, List.cons_append, leF, leH_nil, leH_cons, leF_nil, lk, scp, scpL, scpO, resF, resH, resO, resV, resVL, nth, Nat.reduceBEq, Nat.reduceLT, decide_true, decide_false, List.length, List.length_cons, List.length_nil, Nat.reduceAdd, Bool.and_self, Bool.and_true, and_true, true_and, numF] <;> try simp))⟩
   case round =>
    intro i hi I again
    have hi : i ≤ qs.length := hi
    have hi1 : ((i : Nat) : Int).toNat = i := by omega
    (refine Y_go 600 ?_; dsimp only [zq9y, t3n5, T3n5, zq9r, zq9q, Y_k, zq4u, zq8o, zq6n, Nat.reduceBEq, zq6l, zq6k, YK, zq8t, zq55, zq0r, zq50, zq04, zq92, zq9b, zq0i, zq9e, zq9i, normF, zq6m, zq86, zq87, zq9s, zq6h, zq8x, YC, zq9p, t3n4, T3n4, zq9t, zq58, zq06, zq0w, zq5a, zq16, Nat.add_zero, zq5c, zq1p, zq1c, List.nil_append, zq1b, zq18, zq9h, Y_gk, zq6d, YR, zq69, zq4v, zq8p, zq6p, zq0b, zq89, t3n2, T3n2, zqa1, t3n3, T3n3, zq4w, zq6q, zq0e, zqa2, zq8a, YS, zq6b, zq0c, zq6g, zq9u, popTo, zq6i, YP, t3n7, T3n7, t3n6, T3n6, zq9c, zq9l, YG, zq02, zq03, zq9x])
    refine ⟨fun hlt => ?_, fun hge => ?_⟩
    ·have hlt : i < qs.length := by have := of_decide_eq_true hlt; omega
     have hq : qs[i]? = some qs[i] := List.getElem?_eq_getElem hlt
     have hqa := nxs_parts j1 hq
     generalize qs[i] = q at hq hqa
     obtain ⟨b1, b2, _, sB⟩ := pr_cells (nt := 113) rQ hq
     have hx : (bgL l)[i]? = some (bgL l)[i] := List.getElem?_eq_getElem (by omega)
     have e1 : q.pa.fr = (bgL l)[i] := by rw [hqa]; show (bgL l).getD i 0 = _; rw [List.getD_eq_getElem?_getD, hx]; rfl
     have e2 : q.pa.to = toL l.length (bgL l) i := by rw [hqa]; rfl
     rw [e1] at b1
     rw [e2] at b2
     generalize (bgL l)[i] = x at hx b1
     have bd : (0 : Int) ≤ (i : Int) ∧ (i : Int) < (qs.length : Int) ∧ qA.isSome = true := ⟨by omega, by omega, sB⟩
     have i64 : ArOk .add .i64 (i : Int) 1 ((i + 1 : Nat) : Int) := ArOk.to (by omega) (by omega) (by omega)
     rw [hi1]
     have out : ¬ (x ≤ p ∧ p < toL l.length (bgL l) i) → wantI l p (i + 1) = wantI l p i := by
      intro h
      unfold wantI
      by_cases hin : insB l p = true
      ·have hin2 := hin
       unfold insB at hin2
       simp only [Bool.and_eq_true, decide_eq_true_eq] at hin2
       have hpn : (p.toNat : Int) = p := by omega
       obtain ⟨y, hy, hy1, hy2, _⟩ := at_part (l := l) (p := p.toNat) (by omega)
       by_cases ha : atL l p.toNat = i
       ·exfalso
        rw [ha] at hy hy2
        rw [hx] at hy; injection hy with hy
        exact h ⟨by omega, by omega⟩
       ·by_cases h2 : atL l p.toNat < i
        ·rw [if_pos ⟨hin, by omega⟩, if_pos ⟨hin, h2⟩]
        ·rw [if_neg (by omega), if_neg (by omega)]
      ·rw [if_neg (by simp [hin]), if_neg (by simp [hin])]
     have go : ∀ a W (F : List (Nat × SV)) (v : Int), v = wantI l p (i + 1) → leF 0 F [(0, .val (.slice B l.length bc)), (1, .val (.int .i64 p)), (7, .val (.slice oA l.length oC)), (8, .val (.slice pA ps.length pc)), (9, .val (.int .i64 0)), (10, .val (.slice qA qs.length qc)), (11, .val (.int .i64 (if insB l p = true then (atL l p.toNat : Int) else 0))), (12, .val (.int .i64 (if insB l p = true then 0 else 2))), (13, .val (.int .i64 v)), (14, .val (.int .i64 ((i + 1 : Nat) : Int)))] → Rep ⟨W5, W5.heap.size, [], 113, []⟩ { F := F, H := [] } a W → I a W := fun a W F v hv hF rep => again (i + 1) (by show i + 1 ≤ _; omega) (by show _ - (i + 1) < _ - i; omega) a W (rep.le (by rw [← hv]; exact hF) (by (simp only [setn, List.nil_append, List.cons_append, leF, leH_nil, leH_cons, leF_nil, lk, scp, scpL, scpO, resF, resH, resO, resV, resVL, nth, Nat.reduceBEq, Nat.reduceLT, decide_true, decide_false, List.length, List.length_cons, List.length_nil, Nat.reduceAdd, Bool.and_self, Bool.and_true, and_true, true_and, numF] <;> try simp)))
     refine ⟨bd, sB, x, b1, fun h1 => ⟨bd, sB, _, b2, fun h2 => ⟨_, i64, lend_rule fun a W rep => go a W _ (i : Int) ?_ (by (simp only [setn, List.nil_append, List.cons_append, leF, leH_nil, leH_cons, leF_nil, lk, scp, scpL, scpO, resF, resH, resO, resV, resVL, nth, Nat.reduceBEq, Nat.reduceLT, decide_true, decide_false, List.length, List.length_cons, List.length_nil, Nat.reduceAdd, Bool.and_self, Bool.and_true, and_true, true_and, numF] <;> try simp)) rep⟩, fun h2 => ⟨_, i64, lend_rule fun a W rep => go a W _ (wantI l p i) ?_ (by (simp only [setn, List.nil_append, List.cons_append, leF, leH_nil, leH_cons, leF_nil, lk, scp, scpL, scpO, resF, resH, resO, resV, resVL, nth, Nat.reduceBEq, Nat.reduceLT, decide_true, decide_false, List.length, List.length_cons, List.length_nil, Nat.reduceAdd, Bool.and_self, Bool.and_true, and_true, true_and, numF] <;> try simp)) rep⟩⟩, fun h1 => ⟨_, i64, lend_rule fun a W rep => go a W _ (wantI l p i) ?_ (by (simp only [setn, List.nil_append, List.cons_append, leF, leH_nil, leH_cons, leF_nil, lk, scp, scpL, scpO, resF, resH, resO, resV, resVL, nth, Nat.reduceBEq, Nat.reduceLT, decide_true, decide_false, List.length, List.length_cons, List.length_nil, Nat.reduceAdd, Bool.and_self, Bool.and_true, and_true, true_and, numF] <;> try simp)) rep⟩⟩
     ·have h1 := of_decide_eq_true h1
      have h2 := of_decide_eq_true h2
      obtain ⟨c1, c2, c3⟩ := part_at hx h1 h2
      unfold wantI
      rw [if_pos ⟨by unfold insB; simp; omega, by omega⟩, c3]
     ·have h2 := of_decide_eq_false h2
      exact (out (by omega)).symm
     ·have h1 := of_decide_eq_false h1
      exact (out (by omega)).symm
    ·have hie : i = qs.length := by have := of_decide_eq_false hge; omega
     subst hie
     have hnl2 : ∀ p ∈ ps, p.pa.nx.length ≤ 2 := fun p hp => (nxs_nn k1 p.pa.nx (List.mem_map.2 ⟨p, hp, rfl⟩)).1
     have s9 := fun W (hW : HeapOk ⟨W5, W5.heap.size, [], 113, []⟩ [] W) => sameP ps qs pA qA pc qc W (by omega) hnl2 (k1.trans j1.symm) (rP.keep hW.fresh') (rQ.keep hW.fresh') (nP.keep hW.fresh') (j3.keep hW.fresh')
     have s10 := fun W (hW : HeapOk ⟨W5, W5.heap.size, [], 113, []⟩ [] W) => same31 oA B oC bc l l W (rO.keep hW.fresh') (rB.keep hW.fresh') (by omega)
     have done : ∀ F H, denAll H F [4] = some [.bool true] → RetG (cxOf Tryd.prog Tryd.f3 K3 T3 R) ⟨W5, W5.heap.size, [], 113, []⟩ { F := F, H := H } := fun F H hd =>
      ret_rule (vs := [.bool true]) r3 rfl hd fun W hW => hR _ _ ⟨Fresh.tr hw hW.fresh', rfl⟩
     refine ⟨fun hp0 => ⟨fun _ => ?_, fun h => absurd h (by decide)⟩, fun hp0 => ⟨fun _ => ?_, fun h => absurd h (by decide)⟩⟩
     ·refine call_val (vs := [.slice pA ps.length pc, .slice qA qs.length qc]) rfl (fun W hW => s9 W hW) fun v hv => ⟨.bt, by rw [hv]; simp [Is], ?_⟩
      (refine Y_go 600 ?_; dsimp only [zq8t, Y_k, zq4v, zq8o, zq6n, Nat.reduceBEq, zq6k, zq8p, zq6p, zq6l, zq0b, YK, zq4u, Y_gk, zq69, YR, zq9l, YG])
      refine call_val (vs := [.slice oA l.length oC, .slice B l.length bc]) rfl (fun W hW => (s10 W hW).mono fun v w' h => ⟨h.2, h.1⟩) fun v hv => ⟨.bt, by rw [hv]; simp [Is], ?_⟩
      (refine Y_go 600 ?_; dsimp only [zq8t, Y_k, zq4v, zq8o, zq6n, Nat.reduceBEq, zq6k, zq8p, zq6p, zq6l, zq0b, YK, zq4u, Y_gk, zq69, YR, zq6d, zq50, zq6q, zq04, zq92, zq9b, zq0i, zq9c, zq6e, YS, zq6a, zq02, zq6o, zq9i, normF, zq6m, zq86, zq8a, zq87, zq89, zq9x, zq6c, zq53, zq0o, zq0c, zq6b])
      by_cases hlt : p < l.length
      ·have e1 : insB l p = true := by unfold insB; simp; exact ⟨of_decide_eq_true hp0, hlt⟩
       have hpn : (p.toNat : Int) = p := by have := of_decide_eq_true hp0; omega
       have e2 : wantI l p qs.length = (atL l p.toNat : Int) := by
        unfold wantI
        obtain ⟨y, hy, _⟩ := at_part (l := l) (p := p.toNat) (by omega)
        rw [if_pos ⟨e1, by rw [hql]; exact (List.getElem?_eq_some_iff.1 hy).1⟩]
       refine ⟨fun _ => ⟨fun _ => ⟨fun _ => done _ _ rfl, fun h => absurd h (by rw [e2, e1]; simp)⟩, fun h => absurd h (by rw [e1]; simp)⟩, fun h => absurd (of_decide_eq_false h) (by omega)⟩
      ·have e1 : insB l p = false := by unfold insB; simp; intro _; omega
       refine ⟨fun h => absurd (of_decide_eq_true h) (by omega), fun h => ?_⟩
       have fine : ∀ F, denAll [] F [4] = some [.bool ((if insB l p = true then (atL l p.toNat : Int) else 0) == 0)] → RetG (cxOf Tryd.prog Tryd.f3 K3 T3 R) ⟨W5, W5.heap.size, [], 113, []⟩ { F := F, H := [] } := fun F hF => done F [] (by rw [hF, e1]; rfl)
       first
       | exact ⟨fun _ => ⟨fun _ => fine _ rfl, fun h => absurd h (by rw [e1]; simp)⟩, fun h => absurd h (by simp; omega)⟩
       | exact ⟨fun _ => fine _ rfl, fun h => absurd h (by rw [e1]; simp)⟩
     ·refine call_val (vs := [.slice pA ps.length pc, .slice qA qs.length qc]) rfl (fun W hW => s9 W hW) fun v hv => ⟨.bt, by rw [hv]; simp [Is], ?_⟩
      (refine Y_go 600 ?_; dsimp only [zq8t, Y_k, zq4v, zq8o, zq6n, Nat.reduceBEq, zq6k, zq8p, zq6p, zq6l, zq0b, YK, zq4u, Y_gk, zq69, YR, zq9l, YG])
      refine call_val (vs := [.slice oA l.length oC, .slice B l.length bc]) rfl (fun W hW => (s10 W hW).mono fun v w' h => ⟨h.2, h.1⟩) fun v hv => ⟨.bt, by rw [hv]; simp [Is], ?_⟩
      (refine Y_go 600 ?_; dsimp only [zq8t, Y_k, zq4v, zq8o, zq6n, Nat.reduceBEq, zq6k, zq8p, zq6p, zq6l, zq0b, YK, zq4u, Y_gk, zq69, YR, zq6b, YS, zq0c, zq6c, zq53, zq0n, zq50, zq6q, zq04, zq92, zq9b, zq0i, zq9c, zq6d, zq6o, zq9i, normF, zq6m, zq86, zq8a, zq87, zq9x])
      have e1 : insB l p = false := by unfold insB; rw [show decide (0 ≤ p) = false from hp0]; rfl
      exact ⟨fun _ => done _ _ (by rw [e1]; rfl), fun h => absurd h (by rw [e1]; simp)⟩
  refine call_val (vs := [.slice oA l.length oC, .int .i64 p]) rfl (fun W hW => hat W hW) fun v hv => ⟨.tup [.val (.int .i64 (if insB l p = true then (atL l p.toNat : Int) else 0)), .val (.int .i64 (if insB l p = true then 0 else 2))], by rw [hv, hae]; cases insB l p <;> simp [Is, IsL], ?_⟩
  (refine Y_go 6 ?_; dsimp only [zq8t, Y_k, zq4u, zq8o, zq6n, Nat.reduceBEq, zq6k, YK, zq5j, zq2f, nth, zq2e, zq6l, zq9i, normF, zq6m, zq86, zq87, Y_0])
  exact fun a W rep => fin _ (by (simp only [setn, List.nil_append, List.cons_append, leF, leH_nil, leH_cons, leF_nil, lk, scp, scpL, scpO, resF, resH, resO, resV, resVL, nth, Nat.reduceBEq, Nat.reduceLT, decide_true, decide_false, List.length, List.length_cons, List.length_nil, Nat.reduceAdd, Bool.and_self, Bool.and_true, and_true, true_and, numF] <;> try simp)) a W rep
end Go.Proofs.YtgghmmjoplddbaaDoor
