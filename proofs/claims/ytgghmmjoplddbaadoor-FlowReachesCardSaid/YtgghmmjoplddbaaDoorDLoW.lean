/- flow.Loops. -/
import Derived.Test.YtgghmmjoplddbaaDoorRrPlain
import Derived.Test.YtgghmmjoplddbaaDoorDFlCodeP
set_option linter.unusedSimpArgs false
set_option linter.unusedVariables false
set_option linter.unnecessarySimpa false
namespace Go.Proofs.YtgghmmjoplddbaaDoor
open Go Go.Sx Go.Isa
set_option maxRecDepth 100000
noncomputable def rcC (nx : List (List Int)) (wo : Int) (k : Nat) : Bool := @decide (Rch nx wo k) (Classical.propDecidable _)
noncomputable def dbC (nx : List (List Int)) (i k : Nat) : Bool := rcC nx (-1) k && !rcC nx i k
theorem rcC_iff {nx : List (List Int)} {wo : Int} {k : Nat} : rcC nx wo k = true ↔ Rch nx wo k := by unfold rcC; simp
theorem ReachOk.at {nx : List (List Int)} {wo : Int} {os : List Bool} (h : ReachOk nx wo os) {k : Nat} (hk : k < nx.length) : os[k]? = some (rcC nx wo k) := by
 have hk' : k < os.length := by rw [h.1]; exact hk
 have e : os[k]? = some os[k] := List.getElem?_eq_getElem hk'
 have := h.2 k _ e
 rw [e]; congr 1
 rw [Bool.eq_iff_iff, this, rcC_iff]
theorem DomOk.at {nx : List (List Int)} {i : Nat} {os : List Bool} (h : DomOk nx i os) {k : Nat} (hk : k < nx.length) : os[k]? = some (dbC nx i k) := by
 have hk' : k < os.length := by rw [h.1]; exact hk
 have e : os[k]? = some os[k] := List.getElem?_eq_getElem hk'
 have := h.2 k _ e
 rw [e]; congr 1
 unfold dbC
 rw [Bool.eq_iff_iff, this, Bool.and_eq_true, Bool.not_eq_true', ← rcC_iff, ← rcC_iff, Bool.not_eq_true]
noncomputable def lpI (nx : List (List Int)) (i : Nat) (s : List Int) : List (Int × Int) := (s.filter fun to => dbC nx to.toNat i).map fun to => ((i : Int), to)
noncomputable def lpT (nx : List (List Int)) : Nat → List (Int × Int)
 | 0 => []
 | i + 1 => lpT nx i ++ lpI nx i (nx.getD i [])
theorem lpI_snoc (nx : List (List Int)) (i : Nat) (s : List Int) (t : Int) : lpI nx i (s ++ [t]) = lpI nx i s ++ (if dbC nx t.toNat i then [((i : Int), t)] else []) := by
 unfold lpI
 rw [List.filter_append, List.map_append]
 congr 1
 cases h : dbC nx t.toNat i <;> simp [h]
theorem lpI_len (nx : List (List Int)) (i : Nat) (s : List Int) : (lpI nx i s).length ≤ s.length := by
 unfold lpI; rw [List.length_map]; exact List.length_filter_le _ _
def prV (l : List (Int × Int)) : List Value := l.flatMap fun x => [.int .i64 x.1, .int .i64 x.2]
theorem prV_get {l : List (Int × Int)} {i k : Nat} {x : Int × Int} (h : l[i]? = some x) (hk : k < 2) : (prV l)[i * 2 + k]? = [Value.int .i64 x.1, .int .i64 x.2][k]? := by
 obtain ⟨h1, h2⟩ := List.getElem?_eq_some_iff.1 h
 unfold prV
 rw [flat_get (f := fun x : Int × Int => [Value.int .i64 x.1, .int .i64 x.2]) (fun _ => rfl) l h1 hk, h2]
theorem lpT_len (nx : List (List Int)) (hn : ∀ s ∈ nx, s.length ≤ 2) : ∀ i, (lpT nx i).length ≤ 2 * i
 | 0 => by simp [lpT]
 | i + 1 => by
  have ih := lpT_len nx hn i
  have h2 := lpI_len nx i (nx.getD i [])
  have h3 : (nx.getD i []).length ≤ 2 := by
   rw [List.getD_eq_getElem?_getD]
   cases h : nx[i]? with
   | none => simp
   | some s => exact hn s (List.mem_of_getElem? h)
  unfold lpT
  rw [List.length_append]; omega
def LoopR (nx : List (List Int)) (w : World) (v : Value) (w' : World) : Prop := ∃ (A : Option Addr) (c : Nat), v = .slice A (lpT nx nx.length).length c ∧ World.ownsB w' w.heap.size 56 2 (.slice A (lpT nx nx.length).length c) (lpT nx nx.length).length (prV (lpT nx nx.length)) ∧ Fresh w w'
theorem loops16 (l : List In) (nx : List (List Int)) (hnx : nx = (partsL l).map Pa.nx) (B : Option Addr) (bc : Nat) (w : World) (hl : l.length ≤ 1024) (hB : RowAt w B (cellsI l)) (hG : ShAt w) :
  CallsV Tryd.prog 16 [.slice B l.length bc] w fun v w' => ∃ u, v = .tuple #[u, .int .i64 0] ∧ LoopR nx w u w' := by
 refine calls_go (keep := K16) (nt := 48) (svs := [.val (.slice B l.length bc)]) Tryd.func16 x16 n16 (by simp) (by simp [IsL, Is]) fun R hR => ?_
 (refine Y_go 600 ?_; dsimp only [X16, numF, Nat.reduceAdd, zq9r, zq9q, Y_k, zq4u, zq8p, zq6u, YK, zq8t, zq6q, zq9i, normF, zq6n, Nat.reduceBEq, zq6l, zq6k, zq6m, zq86, zq87, zq9y, t16n15, T16n15, zq8o, zq55, zq0r, zq50, zq04, zq92, zq9b, zq0i, zq9g, zq9s, zq6h, zq8x, YC, t16n0, T16n0, zq89, zq9x, zq9p, t16n14, T16n14, zq9j])
 refine ⟨fun h => absurd (of_decide_eq_true h) (by omega), fun _ => ?_⟩
 refine call_base (vs := [.slice B l.length bc]) rfl (R := fun W v W' => PartsR l W v W') (fun W hW => parts33 l B bc W hl (hB.keep hW.fresh') (hG.keep hW.fresh')) (fun _ _ _ h => by obtain ⟨_, _, _, _, _, _, _, _, h⟩ := h; exact h) fun W v W' hW ⟨A, c, ps, hv, h1, h2, h3, h5, h4⟩ ov => ?_
 subst hv
 have hw1 : Fresh w W' := Fresh.tr hW.fresh' h4
 have hr : RowAt W' A (cellsR ps) := .of_own h2 rfl
 have hpl := partsR_len h1
 have hbn := bgL_len l
 have enx : nxs ps = nx := by rw [hnx, ← h1]; simp [nxs]
 have hnl : nx.length = ps.length := by rw [← enx]; simp [nxs]
 have hnn := nxs_nn h1
 rw [enx] at hnn
 refine ⟨.val (.slice A ps.length c), by simp [Is], ?_⟩
 rw [show fps ([] : List SO) = [] from rfl]
 (refine Y_go 600 ?_; dsimp only [zq8t, Y_k, zq4u, zq8o, zq6n, Nat.reduceBEq, zq6k, YK, zq9i, normF, zq6l, zq6m, zq86, zq8a, zq87, zq9y, t16n13, T16n13, zq9r, zq9q, zq9j])
 refine call_base (vs := [.slice A ps.length c]) rfl (R := fun W v W' => DomR nx W v W') (fun W hW => (dom35 ps A c W (by omega) (hr.keep hW.fresh') (h3.keep hW.fresh') (nxs_nn h1)).mono fun v W' ⟨A, c, rs, e1, e2, e3, e4, e5, e6⟩ => ⟨A, c, rs, e1, by rw [e2, hnl], enx ▸ e3, e4, e5, e6⟩) (fun _ _ _ h => by obtain ⟨_, _, _, _, _, _, _, _, h⟩ := h; exact h) fun W2 v W3 hW2 ⟨A2, c2, rs, hv, g1, g2, g3, g4, k3⟩ _ => ?_
 subst hv
 have hw2 : Fresh W' W3 := Fresh.tr hW2.fresh' k3
 have hw : Fresh w W3 := Fresh.tr hw1 hw2
 have kp : RowAt W3 A (cellsR ps) := hr.keep hw2
 have kn : NxAt W3 ps := h3.keep hw2
 have kd : RowAt W3 A2 (cellsB rs) := .of_own g3 rfl
 clear h2 h3 h5 h4 g3 k3 hW hW2 ov hr hw1 hw2
 refine ⟨.val (.slice A2 rs.length c2), by simp [Is], ?_⟩
 rw [show fps ([] : List SO) = [] from rfl]
 (refine Y_go 600 ?_; dsimp only [zq8t, Y_k, zq4u, zq8o, zq6n, Nat.reduceBEq, zq6k, YK, zq9i, normF, zq6l, zq6m, zq86, zq8a, zq87, zq9y, t16n12, T16n12, zq9r, zq9q, zq8p, zq6u, t16n11, T16n11, zq55, zq0r, zq6q, zq9t, zq9v])
 have hll := lpT_len nx (fun s hs => (hnn s hs).1)
 refine loop_go (α := Nat × Option Addr × Nat) (fun q => q.1 ≤ ps.length) (fun _ => ⟨W3, W3.heap.size, [], 48, []⟩) (fun q => { F := [(4, .val (.slice A ps.length c)), (5, .val (.slice A2 rs.length c2)), (6, .own 0 0), (18, .val (.slice A ps.length c)), (19, .val (.int .i64 (ps.length : Int))), (20, .val (.int .i64 (q.1 : Int)))], H := [.own 56 0 2 q.2.1 (lpT nx q.1).length q.2.2 (prV (lpT nx q.1))] }) (fun q => ps.length - q.1) (fun _ => rfl) ?start ?round
 case start =>
  intro a W rep
  have rep1 := (rep.le (s' := { F := [(4, .val (.slice A ps.length c)), (5, .val (.slice A2 rs.length c2)), (6, .val (.slice none 0 0)), (18, .val (.slice A ps.length c)), (19, .val (.int .i64 (ps.length : Int))), (20, .val (.int .i64 0))], H := [] }) (by (simp only [setn, List.nil_append, List.cons_append, leF, leH_nil, leH_cons, leF_nil, lk, scp, scpL, scpO, resF, resH, resO, resV, resVL, nth, Nat.reduceBEq, Nat.reduceLT, decide_true, decide_false, List.length, List.length_cons, List.length_nil, Nat.reduceAdd, Bool.and_self, Bool.and_true, and_true, true_and, numF] <;> try simp)) (by (simp only [setn, List.nil_append, List.cons_append, leF, leH_nil, leH_cons, leF_nil, lk, scp, scpL, scpO, resF, resH, resO, resV, resVL, nth, Nat.reduceBEq, Nat.reduceLT, decide_true, decide_false, List.length, List.length_cons, List.length_nil, Nat.reduceAdd, Bool.and_self, Bool.and_true, and_true, true_and, numF] <;> try simp))).adopt 6 56 2 rfl
  exact ⟨(0, none, 0), Nat.zero_le _, rep1.le (by (simp only [setn, List.nil_append, List.cons_append, leF, leH_nil, leH_cons, leF_nil, lk, scp, scpL, scpO, resF, resH, resO, resV, resVL, nth, Nat.reduceBEq, Nat.reduceLT, decide_true, decide_false, List.length, List.length_cons, List.length_nil, Nat.reduceAdd, Bool.and_self, Bool.and_true, and_true, true_and, numF] <;> try simp)) (by (simp only [setn, List.nil_append, List.cons_append, leF, leH_nil, leH_cons, leF_nil, lk, scp, scpL, scpO, resF, resH, resO, resV, resVL, nth, Nat.reduceBEq, Nat.reduceLT, decide_true, decide_false, List.length, List.length_cons, List.length_nil, Nat.reduceAdd, Bool.and_self, Bool.and_true, and_true, true_and, numF] <;> try simp); exact ⟨rfl, rfl⟩)⟩
 case round =>
  rintro ⟨i, oA, oC⟩ hi I again
  have hi : i ≤ ps.length := hi
  simp only at again ⊢
  have hi1 : ((i : Nat) : Int).toNat = i := by omega
  have hli := hll i
  (refine Y_go 600 ?_; dsimp only [zq9y, t16n9, T16n9, zq9r, zq9q, Y_k, zq50, zq8o, zq6n, Nat.reduceBEq, zq6l, zq6k, zq04, zq92, zq9b, zq0i, zq9e, YK, zq8t, zq9i, normF, zq6m, zq86, zq87, zq8f, t16n8, T16n8, zq9s, zq6h, zq8x, YC, zq9p, t16n7, T16n7, zq9t, zq4u, zq58, zq06, zq0w, zq5c, zq1p, zq1c, List.nil_append, List.cons_append, zq1g, zq1b, zq17, zq5e, List.length_cons, List.length_nil, Nat.reduceAdd, List.map, zq6q, zq6u, zq5d, zq7t, zq8l, zq73, zq8m, zq77, zq8k, zq0a, zq1x, nth, zq1t, dropL, takeL, zq1r, splice, setn, zq8s, zq89, zq8c, t16n6, T16n6, zq5a, zq14, zq1o, zq1k, zq19, zq18, zq55, zq0r, zq8p, zq9v, zq9u, popTo, zq6i, YP, t16n10, T16n10, zq8a, zq9x])
  refine ⟨fun hlt => ?_, fun hge => ?_⟩
  ·have hlt : i < ps.length := by have := of_decide_eq_true hlt; omega
   have hp : ps[i]? = some ps[i] := List.getElem?_eq_getElem hlt
   have hpa := nxs_parts h1 hp
   generalize ps[i] = p at hp hpa
   have hx : (bgL l)[i]? = some (bgL l)[i] := List.getElem?_eq_getElem (by omega)
   have hnr : ∀ m ∈ p.pa.nx, 0 ≤ m ∧ m < ps.length := fun m hm => by rw [hpa] at hm; rw [hpl]; exact nxL_range hx hm
   have hn2 : p.pa.nx.length ≤ 2 := by rw [hpa]; exact nxL_len _ _ _
   have hnxi : nx.getD i [] = p.pa.nx := by
    rw [← enx]; unfold nxs
    rw [List.getD_eq_getElem?_getD, List.getElem?_map, hp]; rfl
   have hstep : lpT nx (i + 1) = lpT nx i ++ lpI nx i p.pa.nx := by rw [← hnxi]; rfl
   obtain ⟨a1, a2, a3, sA⟩ : CellAt ⟨W3, W3.heap.size, [], 48, []⟩ A (i * 3) (.int .i64 p.pa.fr) ∧ CellAt ⟨W3, W3.heap.size, [], 48, []⟩ A (i * 3 + 1) (.int .i64 p.pa.to) ∧ CellAt ⟨W3, W3.heap.size, [], 48, []⟩ A (i * 3 + 2) (.slice p.A p.pa.nx.length p.c) ∧ A.isSome = true := by
    have q : CellAt ⟨W3, W3.heap.size, [], 48, []⟩ A (i * 3) (.int .i64 p.pa.fr) := kp.cell (by have := cellsR_get (k := 0) hp (by omega); rw [Nat.add_zero] at this; rw [this]; rfl)
    exact ⟨q, kp.cell (by rw [cellsR_get hp (by omega)]; rfl), kp.cell (by rw [cellsR_get hp (by omega)]; rfl), by obtain ⟨a, h, _⟩ := q; rw [h]; rfl⟩
   have kx := kn p (List.mem_of_getElem? hp)
   rw [hi1]
   refine ⟨⟨by omega, by omega, sA⟩, _, a1, _, a2, _, _, _, a3, fun g => ?_⟩
   refine loop_go (α := Nat × Option Addr × Nat) (fun q => q.1 ≤ p.pa.nx.length) (fun _ => ⟨W3, W3.heap.size, [], 48, []⟩) (fun q => { F := [(4, .val (.slice A ps.length c)), (5, .val (.slice A2 rs.length c2)), (6, .own 0 0), (7, .val (.int .i64 (i : Int))), (18, .val (.slice A ps.length c)), (19, .val (.int .i64 (ps.length : Int))), (20, .val (.int .i64 (i : Int))), (26, .val (.slice p.A p.pa.nx.length p.c)), (27, .val (.int .i64 (p.pa.nx.length : Int))), (28, .val (.int .i64 (q.1 : Int)))], H := [.own 56 0 2 q.2.1 (lpT nx i ++ lpI nx i (p.pa.nx.take q.1)).length q.2.2 (prV (lpT nx i ++ lpI nx i (p.pa.nx.take q.1)))] }) (fun q => p.pa.nx.length - q.1) (fun _ => rfl) ?start2 ?round2
   case start2 =>
    intro a W rep
    have e0 : lpT nx i ++ lpI nx i (p.pa.nx.take 0) = lpT nx i := by simp [lpI]
    exact ⟨(0, oA, oC), Nat.zero_le _, rep.le (by (simp only [setn, List.nil_append, List.cons_append, leF, leH_nil, leH_cons, leF_nil, lk, scp, scpL, scpO, resF, resH, resO, resV, resVL, nth, Nat.reduceBEq, Nat.reduceLT, decide_true, decide_false, List.length, List.length_cons, List.length_nil, Nat.reduceAdd, Bool.and_self, Bool.and_true, and_true, true_and, numF] <;> try simp)) (by simp only; rw [e0]; (simp only [setn, List.nil_append, List.cons_append, leF, leH_nil, leH_cons, leF_nil, lk, scp, scpL, scpO, resF, resH, resO, resV, resVL, nth, Nat.reduceBEq, Nat.reduceLT, decide_true, decide_false, List.length, List.length_cons, List.length_nil, Nat.reduceAdd, Bool.and_self, Bool.and_true, and_true, true_and, numF] <;> try simp))⟩
   case round2 =>
    rintro ⟨k, bA, bC⟩ hk I2 again2
    have hk : k ≤ p.pa.nx.length := hk
    simp only at again2 ⊢
    have hk1 : ((k : Nat) : Int).toNat = k := by omega
    (refine Y_go 600 ?_; dsimp only [zq9y, t16n5, T16n5, zq9r, zq9q, Y_k, zq50, zq8o, zq6n, Nat.reduceBEq, zq6l, zq6k, zq04, zq92, zq9b, zq0i, zq9e, YK, zq8t, zq9i, normF, zq6m, zq86, zq87, zq8f, t16n4, T16n4, zq9s, zq6h, zq8x, YC, zq9p, t16n3, T16n3, zq9t, zq58, zq06, zq0w, zq5c, zq1p, zq1c, List.nil_append, zq1b, zq18, zq4u, zq89, t16n2, T16n2, zq1g, zq1d, t16n1, T16n1, zq5g, List.map, zq6q, zq21, zq7u, zq73, zq0a, dropL, takeL, zq20, splice, setn, zq22, zq25, zq5h, repL, List.cons_append, zq23, Nat.reduceMul, zq7t, List.length_cons, List.length_nil, Nat.reduceAdd, zq8l, zq8m, zq8k, zq24, zq26, zq5l, zq2w, nth, zq09, zq08, zq2s, zq2r, zq2n, zq2j, zq2k, denL, den, zq2l, zq2h, zqa1, zq4w, zq8p, zq0e, zqa2, zq8a, zq9u, popTo, zq6i, YP])
    refine ⟨fun hlt2 => ?_, fun hge2 => ?_⟩
    ·have hlt2 : k < p.pa.nx.length := by have := of_decide_eq_true hlt2; omega
     have hz : p.pa.nx[k]? = some p.pa.nx[k] := List.getElem?_eq_getElem hlt2
     have hzr := hnr _ (List.getElem_mem hlt2)
     generalize p.pa.nx[k] = z at hz hzr
     obtain ⟨m, rfl⟩ : ∃ m : Nat, (m : Int) = z := ⟨z.toNat, by omega⟩
     have hm1 : ((m : Nat) : Int).toNat = m := by omega
     have qz : CellAt ⟨W3, W3.heap.size, [], 48, []⟩ p.A (k * 1) (.int .i64 (m : Int)) := kx.cell (by rw [Nat.mul_one]; exact isV_get _ _ _ hz)
     have sN : p.A.isSome = true := by obtain ⟨a, h, _⟩ := qz; rw [h]; rfl
     obtain ⟨r, hr⟩ : ∃ r, rs[m]? = some r := ⟨rs[m]'(by omega), List.getElem?_eq_getElem (by omega)⟩
     have hro := g2 m _ hr
     have hrl := hro.1
     have hrb := hro.at (k := i) (by omega)
     have kr := g4 _ (List.mem_of_getElem? hr)
     have qr : CellAt ⟨W3, W3.heap.size, [], 48, []⟩ A2 (m * 1) (.slice r.A r.os.length r.c) := kd.cell (by rw [Nat.mul_one, cellsB_get hr])
     have qb : CellAt ⟨W3, W3.heap.size, [], 48, []⟩ r.A (i * 1) (.bool (dbC nx m i)) := kr.cell (by rw [Nat.mul_one]; exact bsV_get hrb)
     have sR : r.A.isSome = true := by obtain ⟨a, h, _⟩ := qb; rw [h]; rfl
     have sD : A2.isSome = true := by obtain ⟨a, h, _⟩ := qr; rw [h]; rfl
     have hst : lpT nx i ++ lpI nx i (p.pa.nx.take (k + 1)) = (lpT nx i ++ lpI nx i (p.pa.nx.take k)) ++ (if dbC nx m i then [((i : Int), (m : Int))] else []) := by rw [takeI_snoc hz, lpI_snoc, hm1, List.append_assoc]
     have hll2 := lpI_len nx i (p.pa.nx.take k)
     have htk : (p.pa.nx.take k).length ≤ 2 := by rw [List.length_take]; omega
     have hzl : (lpT nx i ++ lpI nx i (p.pa.nx.take k)).length ≤ 8000 := by rw [List.length_append]; omega
     generalize lpT nx i ++ lpI nx i (p.pa.nx.take k) = zs at hst hzl
     have k64 : ArOk .add .i64 (k : Int) 1 ((k + 1 : Nat) : Int) := ArOk.to (by omega) (by omega) (by omega)
     rw [hk1, hi1]
     refine ⟨⟨by omega, by omega, sN⟩, _, qz, ⟨by omega, by omega, sD⟩, r.A, r.os.length, r.c, by rw [hm1]; exact qr, ⟨by omega, by omega, sR⟩, _, qb, fun hb => ?_, fun hb => ⟨_, k64, lend_rule fun a W rep => again2 (k + 1, bA, bC) (by show k + 1 ≤ _; omega) (by show _ - (k + 1) < _ - k; omega) a W (rep.le (by (simp only [setn, List.nil_append, List.cons_append, leF, leH_nil, leH_cons, leF_nil, lk, scp, scpL, scpO, resF, resH, resO, resV, resVL, nth, Nat.reduceBEq, Nat.reduceLT, decide_true, decide_false, List.length, List.length_cons, List.length_nil, Nat.reduceAdd, Bool.and_self, Bool.and_true, and_true, true_and, numF] <;> try simp)) ?_)⟩⟩
     ·rw [hb, if_pos rfl] at hst
      refine fun g5 => ⟨⟨by simp only [maxLen]; omega, by omega⟩, fun A5 c5 => ⟨_, k64, lend_rule fun a W rep => again2 (k + 1, A5, c5) (by show k + 1 ≤ _; omega) (by show _ - (k + 1) < _ - k; omega) a W (rep.res.le (by (simp only [setn, List.nil_append, List.cons_append, leF, leH_nil, leH_cons, leF_nil, lk, scp, scpL, scpO, resF, resH, resO, resV, resVL, nth, Nat.reduceBEq, Nat.reduceLT, decide_true, decide_false, List.length, List.length_cons, List.length_nil, Nat.reduceAdd, Bool.and_self, Bool.and_true, and_true, true_and, numF] <;> try simp)) ?_)⟩⟩
      simp only
      rw [hst]
      have e1 : (zs ++ [((i : Int), (m : Int))]).length = zs.length + 1 := by simp
      have e2 : prV (zs ++ [((i : Int), (m : Int))]) = prV zs ++ [.int .i64 (i : Int), .int .i64 (m : Int)] := by simp [prV]
      rw [e1, e2]
      (simp only [setn, List.nil_append, List.cons_append, leF, leH_nil, leH_cons, leF_nil, lk, scp, scpL, scpO, resF, resH, resO, resV, resVL, nth, Nat.reduceBEq, Nat.reduceLT, decide_true, decide_false, List.length, List.length_cons, List.length_nil, Nat.reduceAdd, Bool.and_self, Bool.and_true, and_true, true_and, numF] <;> try simp)
     ·rw [hb, if_neg (by simp), List.append_nil] at hst
      simp only
      rw [hst]
      (simp only [setn, List.nil_append, List.cons_append, leF, leH_nil, leH_cons, leF_nil, lk, scp, scpL, scpO, resF, resH, resO, resV, resVL, nth, Nat.reduceBEq, Nat.reduceLT, decide_true, decide_false, List.length, List.length_cons, List.length_nil, Nat.reduceAdd, Bool.and_self, Bool.and_true, and_true, true_and, numF] <;> try simp)
    ·have hke : k = p.pa.nx.length := by have := of_decide_eq_false hge2; omega
     subst hke
     rw [List.take_length, ← hstep]
     exact ⟨_, ArOk.to (r := ((i + 1 : Nat) : Int)) (by omega) (by omega) (by omega), lend_rule fun a W rep => again (i + 1, bA, bC) (by show i + 1 ≤ _; omega) (by show _ - (i + 1) < _ - i; omega) a W (rep.le (by (simp only [setn, List.nil_append, List.cons_append, leF, leH_nil, leH_cons, leF_nil, lk, scp, scpL, scpO, resF, resH, resO, resV, resVL, nth, Nat.reduceBEq, Nat.reduceLT, decide_true, decide_false, List.length, List.length_cons, List.length_nil, Nat.reduceAdd, Bool.and_self, Bool.and_true, and_true, true_and, numF] <;> try simp)) (by (simp only [setn, List.nil_append, List.cons_append, leF, leH_nil, leH_cons, leF_nil, lk, scp, scpL, scpO, resF, resH, resO, resV, resVL, nth, Nat.reduceBEq, Nat.reduceLT, decide_true, decide_false, List.length, List.length_cons, List.length_nil, Nat.reduceAdd, Bool.and_self, Bool.and_true, and_true, true_and, numF] <;> try simp)))⟩
  ·have hie : i = ps.length := by have := of_decide_eq_false hge; omega
   subst hie
   refine ret_rule (vs := [.slice oA (lpT nx ps.length).length oC, .int .i64 0]) r16 rfl rfl fun W hW => hR _ _ ⟨_, rfl, oA, oC, by rw [hnl], ?_, Fresh.tr hw hW.fresh'⟩
   rw [hnl]
   exact ownsB_low (hW.owns (i := 0) rfl) hw.size
end Go.Proofs.YtgghmmjoplddbaaDoor
