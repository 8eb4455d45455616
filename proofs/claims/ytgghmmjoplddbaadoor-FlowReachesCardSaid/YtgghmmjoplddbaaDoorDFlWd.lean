/- flow.dominates, flow.Dominates; FlowChain: the statement, walked. -/
import Derived.Test.YtgghmmjoplddbaaDoorDFlWr
import Derived.Test.YtgghmmjoplddbaaDoorDFlCode
import Derived.Test.YtgghmmjoplddbaaDoorDFlCode2
set_option linter.unusedSimpArgs false
set_option linter.unusedVariables false
set_option linter.unnecessarySimpa false
namespace Go.Proofs.YtgghmmjoplddbaaDoor
open Go Go.Sx Go.Isa
set_option maxRecDepth 100000
structure RB where
 os : List Bool
 A : Option Addr
 c : Nat
def RB.cell (r : RB) : Value := .slice r.A r.os.length r.c
def cellsB (rs : List RB) : List Value := rs.map RB.cell
theorem cellsB_get {rs : List RB} {i : Nat} {r : RB} (h : rs[i]? = some r) : (cellsB rs)[i]? = some (.slice r.A r.os.length r.c) := by
 unfold cellsB; rw [List.getElem?_map, h]; rfl
def RbAt (w : World) (rs : List RB) : Prop := ∀ r ∈ rs, RowAt w r.A (bsV r.os)
def RbE (E : Env) (rs : List RB) : Prop := ∀ r ∈ rs, RowE E r.A (bsV r.os)
theorem RbAt.keep {w w' : World} {rs : List RB} (h : RbAt w rs) (k : Fresh w w') : RbAt w' rs := fun r hr => (h r hr).keep k
theorem RbE.over {E E' : Env} {rs : List RB} (h : RbE E rs) (o : Over E E') : RbE E' rs := fun r hr => (h r hr).over o
theorem RbE.at {E : Env} {rs : List RB} {H : List SO} {W : World} (h : RbE E rs) (hW : HeapOk E H W) : RbAt W rs := fun r hr => (h r hr).at hW
theorem RbE.snoc {E : Env} {rs : List RB} {r : RB} (h : RbE E rs) (hr : RowE E r.A (bsV r.os)) : RbE E (rs ++ [r]) := fun q hq => by
 rcases List.mem_append.1 hq with e | e
 ·exact h q e
 ·simp only [List.mem_singleton] at e; subst e; exact hr
def DomOk (nx : List (List Int)) (i : Nat) (os : List Bool) : Prop := os.length = nx.length ∧ ∀ k b, os[k]? = some b → (b = true ↔ Rch nx (-1) k ∧ ¬ Rch nx i k)
def MixOk (al ro : List Bool) (k : Nat) (cu : List Bool) : Prop := cu.length = ro.length ∧ ∀ j, j < ro.length → cu[j]? = some (if j < k then (al.getD j false && !ro.getD j false) else ro.getD j false)
theorem MixOk.start (al ro : List Bool) : MixOk al ro 0 ro := ⟨rfl, fun j hj => by
 rw [if_neg (by omega), List.getD_eq_getElem?_getD, List.getElem?_eq_getElem hj]; rfl⟩
theorem MixOk.at {al ro cu : List Bool} {k : Nat} (h : MixOk al ro k cu) (hk : k < ro.length) : cu[k]? = some (ro.getD k false) := by
 rw [h.2 k hk, if_neg (by omega)]
theorem MixOk.step {al ro cu : List Bool} {k : Nat} {v : Bool} (h : MixOk al ro k cu) (hk : k < ro.length) (hv : v = (al.getD k false && !ro.getD k false)) : MixOk al ro (k + 1) (cu.set k v) := ⟨by rw [List.length_set]; exact h.1, fun j hj => by
 rw [List.getElem?_set]
 by_cases e : k = j
 ·subst e
  rw [if_pos rfl, if_pos (by rw [h.1]; exact hk), if_pos (by omega), hv]
 ·rw [if_neg e, h.2 j hj]
  by_cases h2 : j < k
  ·rw [if_pos h2, if_pos (by omega)]
  ·rw [if_neg h2, if_neg (by omega)]⟩
theorem MixOk.fin {nx : List (List Int)} {al ro cu : List Bool} {i : Nat} (h : MixOk al ro ro.length cu) (ha : ReachOk nx (-1) al) (hr : ReachOk nx i ro) : DomOk nx i cu := ⟨by rw [h.1]; exact hr.1, fun k b hb => by
 have hk : k < ro.length := by rw [← h.1]; exact (List.getElem?_eq_some_iff.1 hb).1
 rw [h.2 k hk, if_pos hk] at hb
 injection hb with hb
 have hka : k < al.length := by rw [ha.1, ← hr.1]; exact hk
 have h1 : al[k]? = some al[k] := List.getElem?_eq_getElem hka
 have h2 : ro[k]? = some ro[k] := List.getElem?_eq_getElem hk
 have g1 := ha.2 k _ h1
 have g2 := hr.2 k _ h2
 rw [List.getD_eq_getElem?_getD, h1, List.getD_eq_getElem?_getD, h2] at hb
 simp only [Option.getD_some] at hb
 rw [← hb, Bool.and_eq_true, g1, Bool.not_eq_true', ← g2, Bool.not_eq_true]⟩
theorem dom35 (ps : List PR) (B : Option Addr) (bc : Nat) (w : World) (hl : ps.length ≤ 100000) (hB : RowAt w B (cellsR ps)) (hN : NxAt w ps) (hnn : ∀ s ∈ nxs ps, s.length ≤ 2 ∧ ∀ j ∈ s, (0 : Int) ≤ j) :
  CallsV Tryd.prog 38 [.slice B ps.length bc] w fun v w' => ∃ (A : Option Addr) (c : Nat) (rs : List RB), v = .slice A rs.length c ∧ rs.length = ps.length ∧ (∀ i r, rs[i]? = some r → DomOk (nxs ps) i r.os) ∧ World.ownsB w' w.heap.size 45 1 (.slice A rs.length c) rs.length (cellsB rs) ∧ RbAt w' rs ∧ Fresh w w' := by
 refine calls_go (keep := K38) (nt := 44) (svs := [.val (.slice B ps.length bc)]) Tryd.func38 x38 n38 (by simp) (by simp [IsL, Is]) fun R hR => ?_
 have hnl : (nxs ps).length = ps.length := by simp [nxs]
 (refine Y_go 600 ?_; dsimp only [X38, numF, Nat.reduceAdd, zq9r, zq9q, Y_k, zq4u, zq8p, zq6u, YK, zq8t, zq9i, normF, zq6n, Nat.reduceBEq, zq6l, zq6k, zq6m, zq86, zq87, zq9y, t38n13, T38n13, zq8o, zq9j])
 refine call_base (vs := [.slice B ps.length bc, .int .i64 (-1)]) rfl (R := fun W v W' => ReachR (nxs ps) (-1) W v W') (fun W hW => reach34 ps (-1) B bc W hl (hB.keep hW.fresh') (hN.keep hW.fresh') hnn) (fun _ _ _ h => by obtain ⟨_, _, _, _, _, _, h⟩ := h; exact h) fun W2 v W3 hW2 ⟨A2, c2, al, hv, j1, k2, k3⟩ _ => ?_
 subst hv
 have hw3 : Fresh w W3 := Fresh.tr hW2.fresh' k3
 have ka : RowE ⟨W3, W3.heap.size, [], 44, []⟩ A2 (bsV al) := (RowAt.of_own k2 rfl).toE (by simp) 44 []
 have kB : RowE ⟨W3, W3.heap.size, [], 44, []⟩ B (cellsR ps) := (hB.keep hw3).toE (by simp) 44 []
 have kN : NxE ⟨W3, W3.heap.size, [], 44, []⟩ ps := (hN.keep hw3).toE 44 []
 have hal : al.length = ps.length := by rw [j1.1, hnl]
 refine ⟨.val (.slice A2 al.length c2), by simp [Is], ?_⟩
 rw [show fps ([] : List SO) = [] from rfl]
 (refine Y_go 600 ?_; dsimp only [zq8t, Y_k, zq4u, zq8o, zq6n, Nat.reduceBEq, zq6k, YK, zq9i, normF, zq6l, zq6m, zq86, zq87, zq9y, t38n12, T38n12, zq9r, zq9q, zq8p, zq6u, t38n11, T38n11, zq55, zq0r, zq6q, zq9t, zq9v])
 refine loop_go (α := List RB × Option Addr × Nat × World × Nat × List Nat) (fun q => q.1.length ≤ ps.length ∧ (∀ i r, q.1[i]? = some r → DomOk (nxs ps) i r.os) ∧ Over ⟨W3, W3.heap.size, [], 44, []⟩ ⟨q.2.2.2.1, q.2.2.2.2.1, q.2.2.2.2.2, 44, []⟩ ∧ RbE ⟨q.2.2.2.1, q.2.2.2.2.1, q.2.2.2.2.2, 44, []⟩ q.1)
  (fun q => ⟨q.2.2.2.1, q.2.2.2.2.1, q.2.2.2.2.2, 44, []⟩)
  (fun q => { F := [(0, .val (.slice B ps.length bc)), (3, .val (.slice A2 al.length c2)), (4, .own 0 0), (11, .val (.int .i64 (ps.length : Int))), (12, .val (.int .i64 (q.1.length : Int)))], H := [.own 45 0 1 q.2.1 q.1.length q.2.2.1 (cellsB q.1)] })
  (fun q => ps.length - q.1.length) (fun _ => rfl) ?start ?round
 case start =>
  intro a W rep
  have rep1 := (rep.le (s' := { F := [(0, .val (.slice B ps.length bc)), (3, .val (.slice A2 al.length c2)), (4, .val (.slice none 0 0)), (11, .val (.int .i64 (ps.length : Int))), (12, .val (.int .i64 0))], H := [] }) (by (simp only [setn, List.nil_append, List.cons_append, leF, leH_nil, leH_cons, leF_nil, lk, scp, scpL, scpO, resF, resH, resO, resV, resVL, nth, Nat.reduceBEq, Nat.reduceLT, decide_true, decide_false, List.length, List.length_cons, List.length_nil, Nat.reduceAdd, Bool.and_self, Bool.and_true, and_true, true_and, numF] <;> try simp)) (by (simp only [setn, List.nil_append, List.cons_append, leF, leH_nil, leH_cons, leF_nil, lk, scp, scpL, scpO, resF, resH, resO, resV, resVL, nth, Nat.reduceBEq, Nat.reduceLT, decide_true, decide_false, List.length, List.length_cons, List.length_nil, Nat.reduceAdd, Bool.and_self, Bool.and_true, and_true, true_and, numF] <;> try simp))).adopt 4 45 1 rfl
  exact ⟨([], none, 0, W3, W3.heap.size, []), ⟨Nat.zero_le _, fun i r h => by simp at h, Over.refl _, fun p hp => by simp at hp⟩, rep1.le (by (simp only [setn, List.nil_append, List.cons_append, leF, leH_nil, leH_cons, leF_nil, lk, scp, scpL, scpO, resF, resH, resO, resV, resVL, nth, Nat.reduceBEq, Nat.reduceLT, decide_true, decide_false, List.length, List.length_cons, List.length_nil, Nat.reduceAdd, Bool.and_self, Bool.and_true, and_true, true_and, numF] <;> try simp)) (by (simp only [setn, List.nil_append, List.cons_append, leF, leH_nil, leH_cons, leF_nil, lk, scp, scpL, scpO, resF, resH, resO, resV, resVL, nth, Nat.reduceBEq, Nat.reduceLT, decide_true, decide_false, List.length, List.length_cons, List.length_nil, Nat.reduceAdd, Bool.and_self, Bool.and_true, and_true, true_and, numF] <;> try simp); rfl)⟩
 case round =>
  rintro ⟨rs, oA, oC, b, N, st⟩ ⟨hk, hd, hov, hrb⟩ I again
  simp only at hk hd hov hrb ⊢
  (refine Y_go 600 ?_; dsimp only [zq9y, t38n9, T38n9, zq9r, zq9q, Y_k, zq50, zq8o, zq6n, Nat.reduceBEq, zq6l, zq6k, zq04, zq92, zq9b, zq0i, zq9e, YK, zq8t, zq9i, normF, zq6m, zq86, zq87, zq8f, t38n8, T38n8, zq9s, zq6h, zq8x, YC, zq9p, t38n7, T38n7, zq9t, zq4u, zq89, t38n6, T38n6, zq9j, zq9u, popTo, zq6i, YP, t38n10, T38n10, zq8a, zq9x])
  refine ⟨fun hlt => ?_, fun hge => ?_⟩
  ·have hlt : rs.length < ps.length := by have := of_decide_eq_true hlt; omega
   refine call_rule (vs := [.slice B ps.length bc, .int .i64 (rs.length : Int)]) rfl (R := fun W v W' => ReachR (nxs ps) (rs.length : Int) W v W') (fun W hW => reach34 ps rs.length B bc W hl ((kB.over hov).at hW) ((kN.over hov).at hW) hnn) fun W v W' hW ⟨A, c, ro, hv, h1, ho, hk2⟩ => ?_
   obtain ⟨A', c', e1, e2, e5, _⟩ := hW.gain ho hk2
   injection e1 with e3 _ e4
   subst e3; subst e4; subst hv
   refine ⟨.own 1 0, _, ?_, e2, e5, ?_⟩
   ·simp only [Is]; exact ⟨_, _, _, _, _, _, _, rfl, Nat.le_refl _, ⟨_, _, _, rfl⟩, fun _ => rfl⟩
   clear e5 e2 hW ho hk2
   have hrl : ro.length = ps.length := by rw [h1.1, hnl]
   (refine Y_go 600 ?_; dsimp only [zq8t, List.cons_append, List.nil_append, Y_k, zq4u, zq8o, zq6n, Nat.reduceBEq, zq6k, YK, zq9i, normF, zq6l, zq6m, zq86, zq89, zq87, zq8f, zq9y, t38n5, T38n5, zq9r, zq9q, zq55, zq0t, nth, zq09, zq08, zq0q, zq8p, zq6q, zq9t, zq9v])
   refine loop_go (α := Nat × List Bool) (fun q => q.1 ≤ ro.length ∧ MixOk al ro q.1 q.2) (fun _ => ⟨b, N, st, 44, []⟩) (fun q => { F := [(0, .val (.slice B ps.length bc)), (3, .val (.slice A2 al.length c2)), (4, .own 0 0), (6, .own 1 0), (11, .val (.int .i64 (ps.length : Int))), (12, .val (.int .i64 (rs.length : Int))), (19, .val (.int .i64 (ro.length : Int))), (20, .val (.int .i64 (q.1 : Int)))], H := [.own 45 0 1 oA rs.length oC (cellsB rs), .own 4 0 1 A q.2.length c (bsV q.2)] }) (fun q => ro.length - q.1) (fun _ => rfl) ?start2 ?round2
   case start2 =>
    intro a W rep
    exact ⟨(0, ro), ⟨Nat.zero_le _, MixOk.start al ro⟩, rep.le (by (simp only [setn, List.nil_append, List.cons_append, leF, leH_nil, leH_cons, leF_nil, lk, scp, scpL, scpO, resF, resH, resO, resV, resVL, nth, Nat.reduceBEq, Nat.reduceLT, decide_true, decide_false, List.length, List.length_cons, List.length_nil, Nat.reduceAdd, Bool.and_self, Bool.and_true, and_true, true_and, numF] <;> try simp)) (by (simp only [setn, List.nil_append, List.cons_append, leF, leH_nil, leH_cons, leF_nil, lk, scp, scpL, scpO, resF, resH, resO, resV, resVL, nth, Nat.reduceBEq, Nat.reduceLT, decide_true, decide_false, List.length, List.length_cons, List.length_nil, Nat.reduceAdd, Bool.and_self, Bool.and_true, and_true, true_and, numF] <;> try simp))⟩
   case round2 =>
    rintro ⟨k, cu⟩ ⟨hkk, hm⟩ I2 again2
    simp only at hkk hm ⊢
    have hcl : cu.length = ro.length := hm.1
    (refine Y_go 600 ?_; dsimp only [zq9y, t38n3, T38n3, zq9r, zq9q, Y_k, zq50, zq8o, zq6n, Nat.reduceBEq, zq6l, zq6k, zq04, zq92, zq9b, zq0i, zq9e, YK, zq8t, zq9i, normF, zq6m, zq87, zq86, zq8f, t38n2, T38n2, zq9s, zq6h, zq8x, YC, zq9p, t38n1, T38n1, zq9t, zq4u, zq89, t38n0, T38n0, zq58, zq06, zq0w, zq5c, zq1p, zq1d, List.nil_append, zq1b, zq18, Y_gk, zq6d, YR, zq69, zq0y, nth, zq09, zq08, zq0v, zq1q, zq1n, zq53, zq0o, zq4v, zq8p, zq6p, zq0b, zq5d, zq7u, zq7g, zq0a, zq1y, zq1w, denL, den, zq1v, splice, setn, zq8s, zqa1, zq4w, zq6q, zq0e, zqa2, YS, zq6b, zq0c, zq7w, zq7i, zq9u, popTo, zq6i, YP, t38n4, T38n4, zq5h, List.map, zq6u, repL, List.cons_append, zq23, Nat.reduceMul, zq81, zq7n, dropL, takeL, zq20, zq24, zq26, List.length_cons, List.length_nil, Nat.reduceAdd, zq5l, zq2w, zq2s, zq2r, zq2n, zq2j, zq2k, zq8l, zq8m, zq8k, zq2l, zq2h, zq8a])
    refine ⟨fun hlt2 => ?_, fun hge2 => ?_⟩
    ·have hlt2 : k < ro.length := by have := of_decide_eq_true hlt2; omega
     have hk1 : ((k : Nat) : Int).toNat = k := by omega
     have ha1 : al[k]? = some al[k] := List.getElem?_eq_getElem (by omega)
     have gc := hm.at hlt2
     have hst := hm.step hlt2 (v := (al.getD k false && !ro.getD k false)) rfl
     have hgd : al.getD k false = al[k] := by rw [List.getD_eq_getElem?_getD, ha1]; rfl
     rw [hgd] at hst
     generalize al[k] = x at ha1 hst
     generalize ro.getD k false = y at gc hst
     have qa : CellAt ⟨b, N, st, 44, []⟩ A2 (k * 1) (.bool x) := (ka.over hov).cell (by rw [Nat.mul_one]; exact bsV_get ha1)
     have sA : A2.isSome = true := by obtain ⟨a, h, _⟩ := qa; rw [h]; rfl
     have bda : (0 : Int) ≤ (k : Int) ∧ (k : Int) < (al.length : Int) ∧ A2.isSome = true := ⟨by omega, by omega, sA⟩
     have bdc : (0 : Int) ≤ (k : Int) ∧ (k : Int) < (cu.length : Int) := ⟨by omega, by omega⟩
     have gb : (bsV cu)[k * 1]? = some (.bool y) := by rw [Nat.mul_one]; exact bsV_get gc
     have lb : k * 1 + 1 ≤ (bsV cu).length := by rw [bsV_len]; omega
     have k64 : ArOk .add .i64 (k : Int) 1 ((k + 1 : Nat) : Int) := ArOk.to (by omega) (by omega) (by omega)
     rw [hk1]
     have go : ∀ a W (F : List (Nat × SV)) (v : Bool), v = (x && !y) → leF 2 F [(0, .val (.slice B ps.length bc)), (3, .val (.slice A2 al.length c2)), (4, .own 0 0), (6, .own 1 0), (11, .val (.int .i64 (ps.length : Int))), (12, .val (.int .i64 (rs.length : Int))), (19, .val (.int .i64 (ro.length : Int))), (20, .val (.int .i64 ((k + 1 : Nat) : Int)))] → Rep ⟨b, N, st, 44, []⟩ { F := F, H := [.own 45 0 1 oA rs.length oC (cellsB rs), .own 4 0 1 A cu.length c (setn (bsV cu) (k * 1) (.bool v))] } a W → I2 a W := fun a W F v hv hF rep =>
      again2 (k + 1, cu.set k (x && !y)) ⟨by simp only; omega, hst⟩ (by simp only; omega) a W (rep.le hF (by rw [Nat.mul_one, bsV_set, hv]; simp only [List.length_set]; (simp only [setn, List.nil_append, List.cons_append, leF, leH_nil, leH_cons, leF_nil, lk, scp, scpL, scpO, resF, resH, resO, resV, resVL, nth, Nat.reduceBEq, Nat.reduceLT, decide_true, decide_false, List.length, List.length_cons, List.length_nil, Nat.reduceAdd, Bool.and_self, Bool.and_true, and_true, true_and, numF] <;> try simp)))
     exact ⟨bda, x, qa, fun hx => ⟨bdc, y, gb, bdc, lb, _, k64, lend_rule fun a W rep => go a W _ _ (by simp [hx]) (by (simp only [setn, List.nil_append, List.cons_append, leF, leH_nil, leH_cons, leF_nil, lk, scp, scpL, scpO, resF, resH, resO, resV, resVL, nth, Nat.reduceBEq, Nat.reduceLT, decide_true, decide_false, List.length, List.length_cons, List.length_nil, Nat.reduceAdd, Bool.and_self, Bool.and_true, and_true, true_and, numF] <;> try simp)) rep⟩, fun hx => ⟨bdc, lb, _, k64, lend_rule fun a W rep => go a W _ _ (by simp [hx]) (by (simp only [setn, List.nil_append, List.cons_append, leF, leH_nil, leH_cons, leF_nil, lk, scp, scpL, scpO, resF, resH, resO, resV, resVL, nth, Nat.reduceBEq, Nat.reduceLT, decide_true, decide_false, List.length, List.length_cons, List.length_nil, Nat.reduceAdd, Bool.and_self, Bool.and_true, and_true, true_and, numF] <;> try simp)) rep⟩⟩
    ·have hke : k = ro.length := by have := of_decide_eq_false hge2; omega
     subst hke
     have hdo := hm.fin j1 h1
     intro g5
     refine ⟨⟨by simp only [maxLen]; omega, by omega⟩, fun A5 c5 => ⟨((rs.length + 1 : Nat) : Int), ArOk.to (by omega) (by omega) (by omega), lend_rule fun a W rep => ?_⟩⟩
     have rep2 : Rep ⟨b, N, st, 44, []⟩ { F := [(0, .val (.slice B ps.length bc)), (3, .val (.slice A2 al.length c2)), (4, .own 0 0), (11, .val (.int .i64 (ps.length : Int))), (12, .val (.int .i64 ((rs ++ [(⟨cu, A, c⟩ : RB)]).length : Int)))], H := [.own 45 0 1 A5 (rs ++ [(⟨cu, A, c⟩ : RB)]).length c5 (cellsB (rs ++ [⟨cu, A, c⟩]))] ++ [.own 4 0 1 A cu.length c (bsV cu)] } a W := by
      have hl2 : (rs ++ [(⟨cu, A, c⟩ : RB)]).length = rs.length + 1 := by simp
      have hc2 : cellsB (rs ++ [⟨cu, A, c⟩]) = cellsB rs ++ [.slice A cu.length c] := by simp [cellsB, RB.cell]
      rw [hl2, hc2]
      exact rep.res.le (by (simp only [setn, List.nil_append, List.cons_append, leF, leH_nil, leH_cons, leF_nil, lk, scp, scpL, scpO, resF, resH, resO, resV, resVL, nth, Nat.reduceBEq, Nat.reduceLT, decide_true, decide_false, List.length, List.length_cons, List.length_nil, Nat.reduceAdd, Bool.and_self, Bool.and_true, and_true, true_and, numF] <;> try simp)) (by (simp only [setn, List.nil_append, List.cons_append, leF, leH_nil, leH_cons, leF_nil, lk, scp, scpL, scpO, resF, resH, resO, resV, resVL, nth, Nat.reduceBEq, Nat.reduceLT, decide_true, decide_false, List.length, List.length_cons, List.length_nil, Nat.reduceAdd, Bool.and_self, Bool.and_true, and_true, true_and, numF] <;> try simp))
     obtain ⟨rep3, ov⟩ := rep2.cut (H1 := [.own 45 0 1 A5 (rs ++ [(⟨cu, A, c⟩ : RB)]).length c5 (cellsB (rs ++ [⟨cu, A, c⟩]))]) rfl (rep2.le (s' := { F := [(0, .val (.slice B ps.length bc)), (3, .val (.slice A2 al.length c2)), (4, .own 0 0), (11, .val (.int .i64 (ps.length : Int))), (12, .val (.int .i64 ((rs ++ [(⟨cu, A, c⟩ : RB)]).length : Int)))], H := [.own 45 0 1 A5 (rs ++ [(⟨cu, A, c⟩ : RB)]).length c5 (cellsB (rs ++ [⟨cu, A, c⟩]))] }) (by (simp only [setn, List.nil_append, List.cons_append, leF, leH_nil, leH_cons, leF_nil, lk, scp, scpL, scpO, resF, resH, resO, resV, resVL, nth, Nat.reduceBEq, Nat.reduceLT, decide_true, decide_false, List.length, List.length_cons, List.length_nil, Nat.reduceAdd, Bool.and_self, Bool.and_true, and_true, true_and, numF] <;> try simp)) (by (simp only [setn, List.nil_append, List.cons_append, leF, leH_nil, leH_cons, leF_nil, lk, scp, scpL, scpO, resF, resH, resO, resV, resVL, nth, Nat.reduceBEq, Nat.reduceLT, decide_true, decide_false, List.length, List.length_cons, List.length_nil, Nat.reduceAdd, Bool.and_self, Bool.and_true, and_true, true_and, numF] <;> try simp))).frame
     have hrow := rep2.heap.rowOff (i := 0) rfl 44 []
     refine again (rs ++ [(⟨cu, A, c⟩ : RB)], A5, c5, W, W.heap.size, _) ⟨by simp; omega, fun i r hr => ?_, hov.trans ov, (hrb.over ov).snoc hrow⟩ (by simp; omega) a W rep3
     rcases Nat.lt_trichotomy i rs.length with h | h | h
     ·rw [List.getElem?_append_left h] at hr; exact hd i r hr
     ·subst h
      simp at hr; subst hr
      exact hdo
     ·rw [List.getElem?_eq_none (by simp; omega)] at hr; cases hr
  ·have hke : rs.length = ps.length := by have := of_decide_eq_false hge; omega
   exact ret_rule (vs := [.slice oA rs.length oC]) r38 rfl rfl fun W hW => hR _ _ ⟨oA, oC, rs, rfl, hke, hd, ownsB_low ((HeapOk.owns (b := W3) (N := W3.heap.size) (nt := 44) (mk := []) (hov.heap hW) (i := 0) rfl)) hw3.size, hrb.at hW, Fresh.tr hw3 (hov.heap hW).fresh'⟩
def DomR (nx : List (List Int)) (w : World) (v : Value) (w' : World) : Prop := ∃ (A : Option Addr) (c : Nat) (rs : List RB), v = .slice A rs.length c ∧ rs.length = nx.length ∧ (∀ i r, rs[i]? = some r → DomOk nx i r.os) ∧ World.ownsB w' w.heap.size 45 1 (.slice A rs.length c) rs.length (cellsB rs) ∧ RbAt w' rs ∧ Fresh w w'
theorem dominates19 (l : List In) (nx : List (List Int)) (hnx : nx = (partsL l).map Pa.nx) (B : Option Addr) (bc : Nat) (w : World) (hl : l.length ≤ 1024) (hB : RowAt w B (cellsI l)) (hG : ShAt w) :
  CallsV Tryd.prog 15 [.slice B l.length bc] w fun v w' => ∃ u, v = .tuple #[u, .int .i64 0] ∧ DomR nx w u w' := by
 refine calls_go (keep := K15) (nt := 10) (svs := [.val (.slice B l.length bc)]) Tryd.func15 x15 n15 (by simp) (by simp [IsL, Is]) fun R hR => ?_
 (refine Y_go 600 ?_; dsimp only [X15, numF, Nat.reduceAdd, zq9r, zq9q, Y_k, zq4u, zq8p, zq6u, YK, zq8t, zq6q, zq9i, normF, zq6n, Nat.reduceBEq, zq6l, zq6k, zq6m, zq86, zq87, zq9y, t15n2, T15n2, zq8o, zq55, zq0r, zq50, zq04, zq92, zq9b, zq0i, zq9g, zq9s, zq6h, zq8x, YC, t15n0, T15n0, zq89, zq9x, zq9p, t15n1, T15n1, zq9j])
 refine ⟨fun h => absurd (of_decide_eq_true h) (by omega), fun _ => ?_⟩
 refine call_base (vs := [.slice B l.length bc]) rfl (R := fun W v W' => PartsR l W v W') (fun W hW => parts33 l B bc W hl (hB.keep hW.fresh') (hG.keep hW.fresh')) (fun _ _ _ h => by obtain ⟨_, _, _, _, _, _, _, _, h⟩ := h; exact h) fun W v W' hW ⟨A, c, ps, hv, h1, h2, h3, h5, h4⟩ ov => ?_
 subst hv
 have hw1 : Fresh w W' := Fresh.tr hW.fresh' h4
 have hr : RowAt W' A (cellsR ps) := .of_own h2 rfl
 have hpl := partsR_len h1
 have hbn := bgL_len l
 have enx : nxs ps = nx := by rw [hnx, ← h1]; simp [nxs]
 have hnl : nx.length = ps.length := by rw [← enx]; simp [nxs]
 refine ⟨.val (.slice A ps.length c), by simp [Is], ?_⟩
 rw [show fps ([] : List SO) = [] from rfl]
 (refine Y_go 600 ?_; dsimp only [zq8t, zq9j])
 refine call_base (vs := [.slice A ps.length c]) rfl (R := fun W v W' => DomR nx W v W') (fun W hW => (dom35 ps A c W (by omega) (hr.keep hW.fresh') (h3.keep hW.fresh') (nxs_nn h1)).mono fun v W' ⟨A, c, rs, e1, e2, e3, e4, e5, e6⟩ => ⟨A, c, rs, e1, by rw [e2, hnl], enx ▸ e3, e4, e5, e6⟩) (fun _ _ _ h => by obtain ⟨_, _, _, _, _, _, _, _, h⟩ := h; exact h) fun W2 v W3 hW2 ⟨A2, c2, rs, hv, g1, g2, g3, g4, k3⟩ _ => ?_
 subst hv
 have hw2 : Fresh w W3 := Fresh.tr (Fresh.tr hw1 hW2.fresh') k3
 refine ⟨.val (.slice A2 rs.length c2), by simp [Is], ?_⟩
 rw [show fps ([] : List SO) = [] from rfl]
 (refine Y_go 600 ?_; dsimp only [zq8t, Y_k, zq4u, zq8o, zq6n, Nat.reduceBEq, zq6k, YK, zq8p, zq6q, zq9i, normF, zq6l, zq8a, zq87, zq9x])
 have hlow := ownsB_low g3 (Nat.le_trans hw1.size hW2.fresh'.size)
 exact ret_rule (vs := [_, _]) r15 rfl rfl fun W4 hW4 => hR _ _ ⟨_, rfl, A2, c2, rs, rfl, g1, g2, ownsB_keep hlow hW4.fresh', g4.keep hW4.fresh', Fresh.tr hw2 hW4.fresh'⟩
end Go.Proofs.YtgghmmjoplddbaaDoor
