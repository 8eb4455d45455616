/- flow: which part has a place, and what comes behind it, in plain words. -/
import Derived.Test.YtgghmmjoplddbaaDoorFlPlain
import Derived.Test.YtgghmmjoplddbaaDoorFlDefs
import Derived.Test.YtgghmmjoplddbaaDoorSxStill
import Derived.Test.YtgghmmjoplddbaaDoorDFlCode
set_option linter.unusedSimpArgs false
set_option linter.unusedVariables false
set_option linter.unnecessarySimpa false
namespace Go.Isa
open Go
end Go.Isa
namespace Go.Proofs.YtgghmmjoplddbaaDoor
open Go Go.Sx Go.Isa
set_option maxRecDepth 100000
def PartsR (l : List In) (w : World) (v : Value) (w' : World) : Prop := ∃ (A : Option Addr) (c : Nat) (ps : List PR), v = .slice A ps.length c ∧ ps.map PR.pa = partsL l ∧ World.ownsB w' w.heap.size 32 3 (.slice A ps.length c) ps.length (cellsR ps) ∧ NxAt w' ps ∧ NxNew w.heap.size ps ∧ Fresh w w'
theorem partsR_len {l : List In} {ps : List PR} (h : ps.map PR.pa = partsL l) : ps.length = (bgL l).length := by
 have := congrArg List.length h
 rw [List.length_map, partsL_len] at this; exact this
def bsV (o : List Bool) : List Value := o.map Value.bool
theorem bsV_len (o : List Bool) : (bsV o).length = o.length := by simp [bsV]
theorem bsV_get {o : List Bool} {i : Nat} {b : Bool} (h : o[i]? = some b) : (bsV o)[i]? = some (.bool b) := by
 unfold bsV; rw [List.getElem?_map, h]; rfl
theorem bsV_set (o : List Bool) (i : Nat) (b : Bool) : setn (bsV o) i (.bool b) = bsV (o.set i b) := by
 rw [setn_eq]; unfold bsV; rw [List.map_set]
theorem repN_false : ∀ n, repN n [Value.bool false] = bsV (List.replicate n false)
 | 0 => rfl
 | n + 1 => by
  show Value.bool false :: repN n [Value.bool false] = _
  rw [repN_false n]; rfl
def nxs (ps : List PR) : List (List Int) := ps.map fun p => p.pa.nx
theorem reach34 (ps : List PR) (wo : Int) (B : Option Addr) (bc : Nat) (w : World) (hl : ps.length ≤ 100000) (hB : RowAt w B (cellsR ps)) (hN : NxAt w ps) (hnn : ∀ s ∈ nxs ps, s.length ≤ 2 ∧ ∀ j ∈ s, (0 : Int) ≤ j) :
  CallsV Tryd.prog 37 [.slice B ps.length bc, .int .i64 wo] w fun v w' => ∃ (A : Option Addr) (c : Nat) (os : List Bool), v = .slice A os.length c ∧ ReachOk (nxs ps) wo os ∧ World.ownsB w' w.heap.size 4 1 (.slice A os.length c) os.length (bsV os) ∧ Fresh w w' := by
 refine calls_go (keep := K37) (nt := 52) (svs := [.val (.slice B ps.length bc), .val (.int .i64 wo)]) Tryd.func37 x37 n37 (by simp) (by simp [IsL, Is]) fun R hR => ?_
 (refine Y_go 600 ?_; dsimp only [X37, numF, Nat.reduceAdd, zq9r, zq9q, Y_k, zq4u, zq8p, zq6u, YK, zq8t, zq9i, normF, zq6n, Nat.reduceBEq, zq6l, zq6k, zq6m, zq86, zq87, zq9y, t37n9, T37n9, zq9z])
 refine scp_rule (fun _ _ _ h => h) ?_
 (refine Y_go 600 ?_; dsimp only [zq9r, zq9q, Y_k, zq4u, zq8o, zq6n, Nat.reduceBEq, zq6k, YK, zq8t, zq55, zq0r, zq67, zq06, zq4t, List.length_nil, List.nil_append, zq9i, normF, zq6l, zq6m, zq86, zq8f, zq87, zq9y, t37n8, T37n8, zq5h, List.map, zq6q, repL, List.cons_append, zq23, Nat.reduceMul, zq8p, zq7u, zq73, zq0a, dropL, takeL, zq20, splice, setn, zq24, zq26, List.length_cons, Nat.reduceAdd, zq8e, zqa0, t37n7, T37n7, zq9t, zq9v])
 refine ⟨⟨by omega, by omega, by omega, by omega⟩, fun g g1 => ?_⟩
 have hnl : (nxs ps).length = ps.length := by simp [nxs]
 refine loop_go (α := List Bool × List Int × Option Addr × Nat) (fun q => RInv (nxs ps) wo q.1 q.2.1 ∧ q.2.1.length + 3 * cntF q.1 ≤ 3 * ps.length + 1) (fun _ => ⟨w, w.heap.size, [], 52, []⟩)
  (fun q => { F := [(0, .val (.slice B ps.length bc)), (1, .val (.int .i64 wo)), (5, .own 0 0), (6, .own 1 0)], H := [.own 4 0 1 (some ⟨g, 0, none⟩) q.1.length ps.length (bsV q.1), .own 3 0 1 q.2.2.1 q.2.1.length q.2.2.2 (isV q.2.1)] })
  (fun q => q.2.1.length + 3 * cntF q.1) (fun _ => rfl) ?start ?round
 case start =>
  intro a W rep
  have rep1 := (rep.ownC 6 (n := 1) (sz := 1) (xs := [.int .i64 0]) rfl rfl rfl rfl (by decide)).pick [0, 2] (by decide)
  have hst := RInv.start (nxs ps) wo
  rw [hnl] at hst
  refine ⟨(List.replicate ps.length false, [0], some ⟨g1, 0, none⟩, 1), ⟨hst, ?_⟩, rep1.le (by (simp only [renF, renV, renVL, renO, pickH, pickE, posOf, setn, List.nil_append, List.cons_append, leF, leH_nil, leH_cons, leF_nil, lk, scp, scpL, scpO, resF, resH, resO, resV, resVL, nth, Nat.reduceBEq, Nat.reduceLT, decide_true, decide_false, List.length, List.length_cons, List.length_nil, Nat.reduceAdd, Bool.and_self, Bool.and_true, and_true, true_and, numF] <;> try simp)) (by (simp only [renF, renV, renVL, renO, pickH, pickE, posOf, setn, List.nil_append, List.cons_append, leF, leH_nil, leH_cons, leF_nil, lk, scp, scpL, scpO, resF, resH, resO, resV, resVL, nth, Nat.reduceBEq, Nat.reduceLT, decide_true, decide_false, List.length, List.length_cons, List.length_nil, Nat.reduceAdd, Bool.and_self, Bool.and_true, and_true, true_and, numF] <;> try simp); exact ⟨repN_false _, rfl⟩)⟩
  simp only [cntF, List.countP_replicate, List.length_cons, List.length_nil]
  simp; omega
 case round =>
  rintro ⟨os, ws, A, c⟩ ⟨hI, hm⟩ I again
  simp only at hI hm ⊢
  (refine Y_go 32 ?_; dsimp only [zq9y, t37n5, T37n5, zq9r, zq9q, Y_k, zq4u, zq8o, zq6n, Nat.reduceBEq, zq6l, zq6k, YK, zq8t, zq55, zq0t, nth, zq09, zq08, zq0q, zq50, zq8p, zq6q, zq04, zq92, zq9b, zq0i, zq9g, zq9i, normF, zq6m, zq86, zq87, zq8f, zq9s, zq6h, zq8x, YC, zq9p, t37n4, T37n4, zq9t, zq4w, zq0e, zq58, zq06, zq0y, zq0v, zq5c, zq1q, zq1n, zq1c, List.nil_append, zq1b, zq18, zq89, t37n3, T37n3, zq5o, zq3a, zq39, zq37, zq3i, zq3d, zq97, Int.reduceToNat, Y_0, zq9u, popTo, zq6i, YP, t37n6, T37n6, zq8a, zq9x])
  refine ⟨fun hpos => ?_, fun hz => ?_⟩
  ·have hne : ws ≠ [] := by intro e; subst e; simp at hpos
   obtain ⟨ws', n, rfl⟩ : ∃ ws' n, ws = ws' ++ [n] := ⟨ws.dropLast, ws.getLast hne, (List.dropLast_concat_getLast hne).symm⟩
   have hwl : (ws' ++ [n]).length = ws'.length + 1 := by simp
   have hcn := hI.cand n (by simp)
   have hle : ws'.length ≤ 1000000 := by omega
   refine ⟨(ws'.length : Int), ArOk.toSub (by rw [hwl]; omega) (by omega) (by omega), ⟨by omega, by rw [hwl]; omega⟩, n, ?_, (ws'.length : Int), ArOk.toSub (by rw [hwl]; omega) (by omega) (by omega), ⟨by omega, by omega, by rw [hwl]; omega⟩, ?_⟩
   ·refine isV_get _ _ _ ?_
    rw [Int.toNat_natCast, Nat.mul_one]; simp
   have raw : G (cxOf Tryd.prog Tryd.f37 K37 T37 R) ⟨w, w.heap.size, [], 52, []⟩ [.code (.ref 2), .blk 1, .lend I, .blk 0, .code (.ref 6)] { F := [(0, .val (.slice B ps.length bc)), (1, .val (.int .i64 wo)), (5, .own 0 0), (6, .own 1 0), (7, .val (.int .i64 n))], H := [.own 4 0 1 (some ⟨g, 0, none⟩) os.length ps.length (bsV os), .own 3 0 1 A ws'.length c (isV ws')] } := by
    (refine Y_go 600 ?_; dsimp only [zq9y, t37n2, T37n2, zq9r, zq9q, Y_k, zq4u, zq8o, zq6n, Nat.reduceBEq, zq6l, zq6k, YK, zq8t, zq55, zq0r, zq50, zq04, zq92, zq9b, zq0i, zq9h, Y_gk, zq6e, YS, zq6a, zq4v, zq8p, zq6o, zq0b, zq9i, normF, zq6m, zq89, zq86, zq87, zq8f, zq9s, zq6f, YC, zq9u, popTo, zq6i, YP, zqa2, YR, zq6c, zq9c, zq0c, zq58, zq06, zq0y, nth, zq09, zq08, zq0v, zq5c, zq1q, zq1n, zq1d, List.nil_append, zq1b, zq18, zq6h, zq8x, zq9p, t37n1, T37n1, zq5d, zq7v, zq7h, zq0a, zq1y, zq1w, denL, den, zq1v, splice, setn, zq8s, zq8a, t37n0, T37n0, zq0w, zq5a, zq16, zq1p, zq1g, zq5l, zq2w, zq2s, zq2r, zq2o, zq2h, Nat.reduceAdd, zqa1])
    have skip : ∀ F, leF 2 F [(0, .val (.slice B ps.length bc)), (1, .val (.int .i64 wo)), (5, .own 0 0), (6, .own 1 0)] → ((ps.length : Int) ≤ n ∨ n = wo ∨ os[n.toNat]? = some true) → G (cxOf Tryd.prog Tryd.f37 K37 T37 R) ⟨w, w.heap.size, [], 52, []⟩ [.lend I, .blk 0, .code (.ref 6)] { F := F, H := [.own 4 0 1 (some ⟨g, 0, none⟩) os.length ps.length (bsV os), .own 3 0 1 A ws'.length c (isV ws')] } := fun F hF hs =>
     lend_rule fun a W rep => again (os, ws', A, c) ⟨hI.skip (by rw [hnl]; exact hs), by rw [hwl] at hm; simp only; omega⟩ (by simp) a W (rep.le hF (by (simp only [setn, List.nil_append, List.cons_append, leF, leH_nil, leH_cons, leF_nil, lk, scp, scpL, scpO, resF, resH, resO, resV, resVL, nth, Nat.reduceBEq, Nat.reduceLT, decide_true, decide_false, List.length, List.length_cons, List.length_nil, Nat.reduceAdd, Bool.and_self, Bool.and_true, and_true, true_and, numF] <;> try simp)))
    refine ⟨fun h => skip _ (by (simp only [setn, List.nil_append, List.cons_append, leF, leH_nil, leH_cons, leF_nil, lk, scp, scpL, scpO, resF, resH, resO, resV, resVL, nth, Nat.reduceBEq, Nat.reduceLT, decide_true, decide_false, List.length, List.length_cons, List.length_nil, Nat.reduceAdd, Bool.and_self, Bool.and_true, and_true, true_and, numF] <;> try simp)) (.inl (of_decide_eq_true h)), fun h1 => ⟨fun h => skip _ (by (simp only [setn, List.nil_append, List.cons_append, leF, leH_nil, leH_cons, leF_nil, lk, scp, scpL, scpO, resF, resH, resO, resV, resVL, nth, Nat.reduceBEq, Nat.reduceLT, decide_true, decide_false, List.length, List.length_cons, List.length_nil, Nat.reduceAdd, Bool.and_self, Bool.and_true, and_true, true_and, numF] <;> try simp)) (.inr (.inl (by simpa using h))), fun h2 => ?_⟩⟩
    have h1 : n < ps.length := by have := of_decide_eq_false h1; omega
    have h2 : n ≠ wo := by simpa using h2
    have hos : os.length = ps.length := by rw [hI.len, hnl]
    obtain ⟨m, rfl⟩ : ∃ m : Nat, (m : Int) = n := ⟨n.toNat, by omega⟩
    have hm1 : ((m : Nat) : Int).toNat = m := by omega
    have hb : os[m]? = some os[m] := List.getElem?_eq_getElem (by omega)
    generalize os[m] = b at hb
    rw [hm1]
    refine ⟨⟨by omega, by omega⟩, b, by rw [Nat.mul_one]; exact bsV_get hb, fun h => skip _ (by (simp only [setn, List.nil_append, List.cons_append, leF, leH_nil, leH_cons, leF_nil, lk, scp, scpL, scpO, resF, resH, resO, resV, resVL, nth, Nat.reduceBEq, Nat.reduceLT, decide_true, decide_false, List.length, List.length_cons, List.length_nil, Nat.reduceAdd, Bool.and_self, Bool.and_true, and_true, true_and, numF] <;> try simp)) (.inr (.inr (by rw [hm1, hb, h]))), fun h => ?_⟩
    subst h
    have hp : ps[m]? = some ps[m] := List.getElem?_eq_getElem (by omega)
    have hpm := List.mem_of_getElem? hp
    generalize ps[m] = p at hp hpm
    have hs : (nxs ps)[m]? = some p.pa.nx := by unfold nxs; rw [List.getElem?_map, hp]; rfl
    have hs2 := (hnn p.pa.nx (List.mem_of_getElem? hs)).1
    have sB : B.isSome = true := hB.isSome (j := m * 3) (by rw [cellsR_len]; omega)
    have hrd : RdOld ⟨w, w.heap.size, [], 52, []⟩ p.A (p.pa.nx.length * 1) (isV p.pa.nx) := by
     have := (hN p hpm).rd (nt := 52) (fun u hu => by
      unfold isV at hu
      obtain ⟨x, _, rfl⟩ := List.mem_map.1 hu
      rfl)
     rw [isV_len] at this
     rw [Nat.mul_one]; exact this
    refine ⟨⟨by omega, by omega⟩, by rw [bsV_len]; omega, ⟨by omega, by omega, sB⟩, sB, p.A, p.pa.nx.length, p.c, hB.cell (by rw [cellsR_get hp (by omega)]; rfl), isV p.pa.nx, hrd, ⟨by simp only [maxLen]; omega, by omega⟩, fun A2 c2 => ?_⟩
    have hcf := cntF_set os m hb
    have hmk := hI.mark (s := p.pa.nx) (fun s hs j hj => (hnn s hs).2 j hj) (by rw [hnl]; exact h1) h2 (by rw [hm1]; exact hs)
    rw [hm1] at hmk
    refine lend_rule fun a W rep => again (os.set m true, ws' ++ p.pa.nx, A2, c2) ⟨hmk, by rw [hwl] at hm; simp only [List.length_append]; omega⟩ (by simp only [List.length_append, List.length_cons, List.length_nil]; omega) a W (rep.res.le (by (simp only [setn, List.nil_append, List.cons_append, leF, leH_nil, leH_cons, leF_nil, lk, scp, scpL, scpO, resF, resH, resO, resV, resVL, nth, Nat.reduceBEq, Nat.reduceLT, decide_true, decide_false, List.length, List.length_cons, List.length_nil, Nat.reduceAdd, Bool.and_self, Bool.and_true, and_true, true_and, numF] <;> try simp)) ?_)
    rw [Nat.mul_one, bsV_set]
    simp only [List.length_set, List.length_append]
    (simp only [setn, List.nil_append, List.cons_append, leF, leH_nil, leH_cons, leF_nil, lk, scp, scpL, scpO, resF, resH, resO, resV, resVL, nth, Nat.reduceBEq, Nat.reduceLT, decide_true, decide_false, List.length, List.length_cons, List.length_nil, Nat.reduceAdd, Bool.and_self, Bool.and_true, and_true, true_and, numF] <;> try simp)
    simp [isV]
   refine fun a W rep => raw a W (((rep.le (s' := { F := [(0, .val (.slice B ps.length bc)), (1, .val (.int .i64 wo)), (5, .own 0 0), (7, .val (.int .i64 n)), (6, .val (.slice A ws'.length c))], H := [.own 4 0 1 (some ⟨g, 0, none⟩) os.length ps.length (bsV os), .own 3 0 1 A (ws' ++ [n]).length c (isV (ws' ++ [n]))] }) (by (simp only [setn, List.nil_append, List.cons_append, leF, leH_nil, leH_cons, leF_nil, lk, scp, scpL, scpO, resF, resH, resO, resV, resVL, nth, Nat.reduceBEq, Nat.reduceLT, decide_true, decide_false, List.length, List.length_cons, List.length_nil, Nat.reduceAdd, Bool.and_self, Bool.and_true, and_true, true_and, numF] <;> try simp)) (by (simp only [setn, List.nil_append, List.cons_append, leF, leH_nil, leH_cons, leF_nil, lk, scp, scpL, scpO, resF, resH, resO, resV, resVL, nth, Nat.reduceBEq, Nat.reduceLT, decide_true, decide_false, List.length, List.length_cons, List.length_nil, Nat.reduceAdd, Bool.and_self, Bool.and_true, and_true, true_and, numF] <;> try simp))).trunc 6 (i := 1) ws'.length rfl rfl (by rw [hwl]; omega)).res.le (by (simp only [setn, List.nil_append, List.cons_append, leF, leH_nil, leH_cons, leF_nil, lk, scp, scpL, scpO, resF, resH, resO, resV, resVL, nth, Nat.reduceBEq, Nat.reduceLT, decide_true, decide_false, List.length, List.length_cons, List.length_nil, Nat.reduceAdd, Bool.and_self, Bool.and_true, and_true, true_and, numF] <;> try simp)) ?_)
   (simp only [setn, List.nil_append, List.cons_append, leF, leH_nil, leH_cons, leF_nil, lk, scp, scpL, scpO, resF, resH, resO, resV, resVL, nth, Nat.reduceBEq, Nat.reduceLT, decide_true, decide_false, List.length, List.length_cons, List.length_nil, Nat.reduceAdd, Bool.and_self, Bool.and_true, and_true, true_and, numF] <;> try simp)
   rw [← isV_len ws', isV, isV, List.map_append, List.take_left]
  ·have hws : ws = [] := List.length_eq_zero_iff.1 (by have := of_decide_eq_false hz; omega)
   subst hws
   exact ret_rule (vs := [.slice (some ⟨g, 0, none⟩) os.length ps.length]) r37 rfl rfl fun W hW => hR _ _ ⟨some ⟨g, 0, none⟩, ps.length, os, rfl, ⟨hI.len, fun i b hb => hI.fin hb⟩, hW.owns (i := 0) rfl, hW.fresh'⟩
end Go.Proofs.YtgghmmjoplddbaaDoor
