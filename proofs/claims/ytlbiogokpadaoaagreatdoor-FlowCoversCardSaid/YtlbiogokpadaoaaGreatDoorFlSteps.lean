/- flow: which part has a place, and what comes behind it, in plain words. -/
import Derived.Test.YtlbiogokpadaoaaGreatDoorFlPlain
import Derived.Test.YtlbiogokpadaoaaGreatDoorFlDefs
import Derived.Test.YtlbiogokpadaoaaGreatDoorSxStill
import Derived.Test.YtlbiogokpadaoaaGreatDoorFlCode
import Derived.Test.YtlbiogokpadaoaaGreatDoorAsW5
import Derived.Test.YtlbiogokpadaoaaGreatDoorFlCode2
set_option linter.unusedSimpArgs false
set_option linter.unusedVariables false
set_option linter.unnecessarySimpa false
namespace Go.Isa
open Go
end Go.Isa
namespace Go.Proofs.YtlbiogokpadaoaaGreatDoor
open Go Go.Sx Go.Isa
set_option maxRecDepth 100000
def PartsR (l : List In) (w : World) (v : Value) (w' : World) : Prop := ∃ (A : Option Addr) (c : Nat) (ps : List PR), v = .slice A ps.length c ∧ ps.map PR.pa = partsL l ∧ World.ownsB w' w.heap.size 35 3 (.slice A ps.length c) ps.length (cellsR ps) ∧ NxAt w' ps ∧ NxNew w.heap.size ps ∧ Fresh w w'
theorem partsR_len {l : List In} {ps : List PR} (h : ps.map PR.pa = partsL l) : ps.length = (bgL l).length := by
 have := congrArg List.length h
 rw [List.length_map, partsL_len] at this; exact this
theorem parts17 (l : List In) (B : Option Addr) (bc : Nat) (w : World) (hl : l.length ≤ 1024) (hB : RowAt w B (cellsI l)) (hG : ShAt w) :
  CallsV Tryz.prog 17 [.slice B l.length bc] w fun v w' => ∃ u, v = .tuple #[u, .int .i64 0] ∧ PartsR l w u w' := by
 refine calls_go (keep := K17) (nt := 9) (svs := [.val (.slice B l.length bc)]) Tryz.func17 x17 n17 (by simp) (by simp [IsL, Is]) fun R hR => ?_
 (refine Y_go 600 ?_; dsimp only [X17, numF, Nat.reduceAdd, zq9r, zq9q, Y_k, zq4u, zq8p, zq6u, YK, zq8t, zq6q, zq9i, normF, zq6n, Nat.reduceBEq, zq6l, zq6k, zq6m, zq86, zq87, zq9y, t17n2, T17n2, zq8o, zq55, zq0r, zq50, zq04, zq92, zq9b, zq0i, zq9g, zq9s, zq6h, zq8x, YC, t17n0, T17n0, zq89, zq9x, zq9p, t17n1, T17n1, zq9j])
 refine ⟨fun h => absurd (of_decide_eq_true h) (by omega), fun _ => ?_⟩
 refine call_base (vs := [.slice B l.length bc]) rfl (R := fun W v W' => PartsR l W v W') (fun W hW => parts33 l B bc W hl (hB.keep hW.fresh') (hG.keep hW.fresh')) (fun _ _ _ h => by obtain ⟨_, _, _, _, _, _, _, _, h⟩ := h; exact h) fun W v W' hW ⟨A, c, ps, hv, h1, h2, h3, h5, h4⟩ ov => ?_
 subst hv
 have hw1 : Fresh w W' := Fresh.tr hW.fresh' h4
 have hlow := ownsB_low h2 hW.fresh'.size
 refine ⟨.val (.slice A ps.length c), by simp [Is], ?_⟩
 have hfp : fps ([] : List SO) = [] := rfl
 rw [hfp]
 (refine Y_go 600 ?_; dsimp only [zq8t, Y_k, zq4u, zq8o, zq6n, Nat.reduceBEq, zq6k, YK, zq8p, zq6q, zq9i, normF, zq6l, zq8a, zq87, zq9x])
 exact ret_rule (vs := [_, _]) r17 rfl rfl fun W2 hW2 => hR _ _ ⟨_, rfl, A, c, ps, rfl, h1, ownsB_keep hlow hW2.fresh', h3.keep hW2.fresh', h5.le hW.fresh'.size, Fresh.tr hw1 hW2.fresh'⟩
def bsV (o : List Bool) : List Value := o.map Value.bool
theorem bsV_len (o : List Bool) : (bsV o).length = o.length := by simp [bsV]
theorem bsV_get {o : List Bool} {i : Nat} {b : Bool} (h : o[i]? = some b) : (bsV o)[i]? = some (.bool b) := by
 unfold bsV; rw [List.getElem?_map, h]; rfl
theorem bsV_set (o : List Bool) (i : Nat) (b : Bool) : setn (bsV o) i (.bool b) = bsV (o.set i b) := by
 rw [setn_eq]; unfold bsV; rw [List.map_set]
theorem repN_false : ∀ n, repN n [Value.bool false] = bsV (List.replicate n false)
 | 0 => rfl
 | n + 1 => by
  show Value.bool false :: repN n [Value.bool false] = _
  rw [repN_false n]; rfl
def nxs (ps : List PR) : List (List Int) := ps.map fun p => p.pa.nx
theorem reach34 (ps : List PR) (wo : Int) (B : Option Addr) (bc : Nat) (w : World) (hl : ps.length ≤ 100000) (hB : RowAt w B (cellsR ps)) (hN : NxAt w ps) (hnn : ∀ s ∈ nxs ps, s.length ≤ 2 ∧ ∀ j ∈ s, (0 : Int) ≤ j) :
  CallsV Tryz.prog 34 [.slice B ps.length bc, .int .i64 wo] w fun v w' => ∃ (A : Option Addr) (c : Nat) (os : List Bool), v = .slice A os.length c ∧ ReachOk (nxs ps) wo os ∧ World.ownsB w' w.heap.size 4 1 (.slice A os.length c) os.length (bsV os) ∧ Fresh w w' := by
 refine calls_go (keep := K34) (nt := 52) (svs := [.val (.slice B ps.length bc), .val (.int .i64 wo)]) Tryz.func34 x34 n34 (by simp) (by simp [IsL, Is]) fun R hR => ?_
 (refine Y_go 600 ?_; dsimp only [X34, numF, Nat.reduceAdd, zq9r, zq9q, Y_k, zq4u, zq8p, zq6u, YK, zq8t, zq9i, normF, zq6n, Nat.reduceBEq, zq6l, zq6k, zq6m, zq86, zq87, zq9y, t34n9, T34n9, zq9z])
 refine scp_rule (fun _ _ _ h => h) ?_
 (refine Y_go 600 ?_; dsimp only [zq9r, zq9q, Y_k, zq4u, zq8o, zq6n, Nat.reduceBEq, zq6k, YK, zq8t, zq55, zq0r, zq67, zq06, zq4t, List.length_nil, List.nil_append, zq9i, normF, zq6l, zq6m, zq86, zq8f, zq87, zq9y, t34n8, T34n8, zq5h, List.map, zq6q, repL, List.cons_append, zq23, Nat.reduceMul, zq8p, zq7u, zq73, zq0a, dropL, takeL, zq20, splice, setn, zq24, zq26, List.length_cons, Nat.reduceAdd, zq8e, zqa0, t34n7, T34n7, zq9t, zq9v])
 refine ⟨⟨by omega, by omega, by omega, by omega⟩, fun g g1 => ?_⟩
 have hnl : (nxs ps).length = ps.length := by simp [nxs]
 refine loop_go (α := List Bool × List Int × Option Addr × Nat) (fun q => RInv (nxs ps) wo q.1 q.2.1 ∧ q.2.1.length + 3 * cntF q.1 ≤ 3 * ps.length + 1) (fun _ => ⟨w, w.heap.size, [], 52, []⟩)
  (fun q => { F := [(0, .val (.slice B ps.length bc)), (1, .val (.int .i64 wo)), (5, .own 0 0), (6, .own 1 0)], H := [.own 4 0 1 (some ⟨g, 0, none⟩) q.1.length ps.length (bsV q.1), .own 3 0 1 q.2.2.1 q.2.1.length q.2.2.2 (isV q.2.1)] })
  (fun q => q.2.1.length + 3 * cntF q.1) (fun _ => rfl) ?start ?round
 case start =>
  intro a W rep
  have rep1 := (rep.ownC 6 (n := 1) (sz := 1) (xs := [.int .i64 0]) rfl rfl rfl rfl (by decide)).pick [0, 2] (by decide)
  have hst := RInv.start (nxs ps) wo
  rw [hnl] at hst
  refine ⟨(List.replicate ps.length false, [0], some ⟨g1, 0, none⟩, 1), ⟨hst, ?_⟩, rep1.le (by (simp only [renF, renV, renVL, renO, pickH, pickE, posOf, setn, List.nil_append, List.cons_append, leF, leH_nil, leH_cons, leF_nil, lk, scp, scpL, scpO, resF, resH, resO, resV, resVL, nth, Nat.reduceBEq, Nat.reduceLT, decide_true, decide_false, List.length, List.length_cons, List.length_nil, Nat.reduceAdd, Bool.and_self, Bool.and_true, and_true, true_and, numF] <;> try simp)) (by (simp only [renF, renV, renVL, renO, pickH, pickE, posOf, setn, List.nil_append, List.cons_append, leF, leH_nil, leH_cons, leF_nil, lk, scp, scpL, scpO, resF, resH, resO, resV, resVL, nth, Nat.reduceBEq, Nat.reduceLT, decide_true, decide_false, List.length, List.length_cons, List.length_nil, Nat.reduceAdd, Bool.and_self, Bool.and_true, and_true, true_and, numF] <;> try simp); exact ⟨repN_false _, rfl⟩)⟩
  simp only [cntF, List.countP_replicate, List.length_cons, List.length_nil]
  simp; omega
 case round =>
  rintro ⟨os, ws, A, c⟩ ⟨hI, hm⟩ I again
  simp only at hI hm ⊢
  (refine Y_go 32 ?_; dsimp only [zq9y, t34n5, T34n5, zq9r, zq9q, Y_k, zq4u, zq8o, zq6n, Nat.reduceBEq, zq6l, zq6k, YK, zq8t, zq55, zq0t, nth, zq09, zq08, zq0q, zq50, zq8p, zq6q, zq04, zq92, zq9b, zq0i, zq9g, zq9i, normF, zq6m, zq86, zq87, zq8f, zq9s, zq6h, zq8x, YC, zq9p, t34n4, T34n4, zq9t, zq4w, zq0e, zq58, zq06, zq0y, zq0v, zq5c, zq1q, zq1n, zq1c, List.nil_append, zq1b, zq18, zq89, t34n3, T34n3, zq5o, zq3a, zq39, zq37, zq3i, zq3d, zq97, Int.reduceToNat, Y_0, zq9u, popTo, zq6i, YP, t34n6, T34n6, zq8a, zq9x])
  refine ⟨fun hpos => ?_, fun hz => ?_⟩
  ·have hne : ws ≠ [] := by intro e; subst e; simp at hpos
   obtain ⟨ws', n, rfl⟩ : ∃ ws' n, ws = ws' ++ [n] := ⟨ws.dropLast, ws.getLast hne, (List.dropLast_concat_getLast hne).symm⟩
   have hwl : (ws' ++ [n]).length = ws'.length + 1 := by simp
   have hcn := hI.cand n (by simp)
   have hle : ws'.length ≤ 1000000 := by omega
   refine ⟨(ws'.length : Int), ArOk.toSub (by rw [hwl]; omega) (by omega) (by omega), ⟨by omega, by rw [hwl]; omega⟩, n, ?_, (ws'.length : Int), ArOk.toSub (by rw [hwl]; omega) (by omega) (by omega), ⟨by omega, by omega, by rw [hwl]; omega⟩, ?_⟩
   ·refine isV_get _ _ _ ?_
    rw [Int.toNat_natCast, Nat.mul_one]; simp
   have raw : G (cxOf Tryz.prog Tryz.f34 K34 T34 R) ⟨w, w.heap.size, [], 52, []⟩ [.code (.ref 2), .blk 1, .lend I, .blk 0, .code (.ref 6)] { F := [(0, .val (.slice B ps.length bc)), (1, .val (.int .i64 wo)), (5, .own 0 0), (6, .own 1 0), (7, .val (.int .i64 n))], H := [.own 4 0 1 (some ⟨g, 0, none⟩) os.length ps.length (bsV os), .own 3 0 1 A ws'.length c (isV ws')] } := by
    (refine Y_go 600 ?_; dsimp only [zq9y, t34n2, T34n2, zq9r, zq9q, Y_k, zq4u, zq8o, zq6n, Nat.reduceBEq, zq6l, zq6k, YK, zq8t, zq55, zq0r, zq50, zq04, zq92, zq9b, zq0i, zq9h, Y_gk, zq6e, YS, zq6a, zq4v, zq8p, zq6o, zq0b, zq9i, normF, zq6m, zq89, zq86, zq87, zq8f, zq9s, zq6f, YC, zq9u, popTo, zq6i, YP, zqa2, YR, zq6c, zq9c, zq0c, zq58, zq06, zq0y, nth, zq09, zq08, zq0v, zq5c, zq1q, zq1n, zq1d, List.nil_append, zq1b, zq18, zq6h, zq8x, zq9p, t34n1, T34n1, zq5d, zq7v, zq7h, zq0a, zq1y, zq1w, denL, den, zq1v, splice, setn, zq8s, zq8a, t34n0, T34n0, zq0w, zq5a, zq16, zq1p, zq1g, zq5l, zq2w, zq2s, zq2r, zq2o, zq2h, Nat.reduceAdd, zqa1])
    have skip : ∀ F, leF 2 F [(0, .val (.slice B ps.length bc)), (1, .val (.int .i64 wo)), (5, .own 0 0), (6, .own 1 0)] → ((ps.length : Int) ≤ n ∨ n = wo ∨ os[n.toNat]? = some true) → G (cxOf Tryz.prog Tryz.f34 K34 T34 R) ⟨w, w.heap.size, [], 52, []⟩ [.lend I, .blk 0, .code (.ref 6)] { F := F, H := [.own 4 0 1 (some ⟨g, 0, none⟩) os.length ps.length (bsV os), .own 3 0 1 A ws'.length c (isV ws')] } := fun F hF hs =>
     lend_rule fun a W rep => again (os, ws', A, c) ⟨hI.skip (by rw [hnl]; exact hs), by rw [hwl] at hm; simp only; omega⟩ (by simp) a W (rep.le hF (by (simp only [setn, List.nil_append, List.cons_append, leF, leH_nil, leH_cons, leF_nil, lk, scp, scpL, scpO, resF, resH, resO, resV, resVL, nth, Nat.reduceBEq, Nat.reduceLT, decide_true, decide_false, List.length, List.length_cons, List.length_nil, Nat.reduceAdd, Bool.and_self, Bool.and_true, and_true, true_and, numF] <;> try simp)))
    refine ⟨fun h => skip _ (by (simp only [setn, List.nil_append, List.cons_append, leF, leH_nil, leH_cons, leF_nil, lk, scp, scpL, scpO, resF, resH, resO, resV, resVL, nth, Nat.reduceBEq, Nat.reduceLT, decide_true, decide_false, List.length, List.length_cons, List.length_nil, Nat.reduceAdd, Bool.and_self, Bool.and_true, and_true, true_and, numF] <;> try simp)) (.inl (of_decide_eq_true h)), fun h1 => ⟨fun h => skip _ (by (simp only [setn, List.nil_append, List.cons_append, leF, leH_nil, leH_cons, leF_nil, lk, scp, scpL, scpO, resF, resH, resO, resV, resVL, nth, Nat.reduceBEq, Nat.reduceLT, decide_true, decide_false, List.length, List.length_cons, List.length_nil, Nat.reduceAdd, Bool.and_self, Bool.and_true, and_true, true_and, numF] <;> try simp)) (.inr (.inl (by simpa using h))), fun h2 => ?_⟩⟩
    have h1 : n < ps.length := by have := of_decide_eq_false h1; omega
    have h2 : n ≠ wo := by simpa using h2
    have hos : os.length = ps.length := by rw [hI.len, hnl]
    obtain ⟨m, rfl⟩ : ∃ m : Nat, (m : Int) = n := ⟨n.toNat, by omega⟩
    have hm1 : ((m : Nat) : Int).toNat = m := by omega
    have hb : os[m]? = some os[m] := List.getElem?_eq_getElem (by omega)
    generalize os[m] = b at hb
    rw [hm1]
    refine ⟨⟨by omega, by omega⟩, b, by rw [Nat.mul_one]; exact bsV_get hb, fun h => skip _ (by (simp only [setn, List.nil_append, List.cons_append, leF, leH_nil, leH_cons, leF_nil, lk, scp, scpL, scpO, resF, resH, resO, resV, resVL, nth, Nat.reduceBEq, Nat.reduceLT, decide_true, decide_false, List.length, List.length_cons, List.length_nil, Nat.reduceAdd, Bool.and_self, Bool.and_true, and_true, true_and, numF] <;> try simp)) (.inr (.inr (by rw [hm1, hb, h]))), fun h => ?_⟩
    subst h
    have hp : ps[m]? = some ps[m] := List.getElem?_eq_getElem (by omega)
    have hpm := List.mem_of_getElem? hp
    generalize ps[m] = p at hp hpm
    have hs : (nxs ps)[m]? = some p.pa.nx := by unfold nxs; rw [List.getElem?_map, hp]; rfl
    have hs2 := (hnn p.pa.nx (List.mem_of_getElem? hs)).1
    have sB : B.isSome = true := hB.isSome (j := m * 3) (by rw [cellsR_len]; omega)
    have hrd : RdOld ⟨w, w.heap.size, [], 52, []⟩ p.A (p.pa.nx.length * 1) (isV p.pa.nx) := by
     have := (hN p hpm).rd (nt := 52) (fun u hu => by
      unfold isV at hu
      obtain ⟨x, _, rfl⟩ := List.mem_map.1 hu
      rfl)
     rw [isV_len] at this
     rw [Nat.mul_one]; exact this
    refine ⟨⟨by omega, by omega⟩, by rw [bsV_len]; omega, ⟨by omega, by omega, sB⟩, sB, p.A, p.pa.nx.length, p.c, hB.cell (by rw [cellsR_get hp (by omega)]; rfl), isV p.pa.nx, hrd, ⟨by simp only [maxLen]; omega, by omega⟩, fun A2 c2 => ?_⟩
    have hcf := cntF_set os m hb
    have hmk := hI.mark (s := p.pa.nx) (fun s hs j hj => (hnn s hs).2 j hj) (by rw [hnl]; exact h1) h2 (by rw [hm1]; exact hs)
    rw [hm1] at hmk
    refine lend_rule fun a W rep => again (os.set m true, ws' ++ p.pa.nx, A2, c2) ⟨hmk, by rw [hwl] at hm; simp only [List.length_append]; omega⟩ (by simp only [List.length_append, List.length_cons, List.length_nil]; omega) a W (rep.res.le (by (simp only [setn, List.nil_append, List.cons_append, leF, leH_nil, leH_cons, leF_nil, lk, scp, scpL, scpO, resF, resH, resO, resV, resVL, nth, Nat.reduceBEq, Nat.reduceLT, decide_true, decide_false, List.length, List.length_cons, List.length_nil, Nat.reduceAdd, Bool.and_self, Bool.and_true, and_true, true_and, numF] <;> try simp)) ?_)
    rw [Nat.mul_one, bsV_set]
    simp only [List.length_set, List.length_append]
    (simp only [setn, List.nil_append, List.cons_append, leF, leH_nil, leH_cons, leF_nil, lk, scp, scpL, scpO, resF, resH, resO, resV, resVL, nth, Nat.reduceBEq, Nat.reduceLT, decide_true, decide_false, List.length, List.length_cons, List.length_nil, Nat.reduceAdd, Bool.and_self, Bool.and_true, and_true, true_and, numF] <;> try simp)
    simp [isV]
   refine fun a W rep => raw a W (((rep.le (s' := { F := [(0, .val (.slice B ps.length bc)), (1, .val (.int .i64 wo)), (5, .own 0 0), (7, .val (.int .i64 n)), (6, .val (.slice A ws'.length c))], H := [.own 4 0 1 (some ⟨g, 0, none⟩) os.length ps.length (bsV os), .own 3 0 1 A (ws' ++ [n]).length c (isV (ws' ++ [n]))] }) (by (simp only [setn, List.nil_append, List.cons_append, leF, leH_nil, leH_cons, leF_nil, lk, scp, scpL, scpO, resF, resH, resO, resV, resVL, nth, Nat.reduceBEq, Nat.reduceLT, decide_true, decide_false, List.length, List.length_cons, List.length_nil, Nat.reduceAdd, Bool.and_self, Bool.and_true, and_true, true_and, numF] <;> try simp)) (by (simp only [setn, List.nil_append, List.cons_append, leF, leH_nil, leH_cons, leF_nil, lk, scp, scpL, scpO, resF, resH, resO, resV, resVL, nth, Nat.reduceBEq, Nat.reduceLT, decide_true, decide_false, List.length, List.length_cons, List.length_nil, Nat.reduceAdd, Bool.and_self, Bool.and_true, and_true, true_and, numF] <;> try simp))).trunc 6 (i := 1) ws'.length rfl rfl (by rw [hwl]; omega)).res.le (by (simp only [setn, List.nil_append, List.cons_append, leF, leH_nil, leH_cons, leF_nil, lk, scp, scpL, scpO, resF, resH, resO, resV, resVL, nth, Nat.reduceBEq, Nat.reduceLT, decide_true, decide_false, List.length, List.length_cons, List.length_nil, Nat.reduceAdd, Bool.and_self, Bool.and_true, and_true, true_and, numF] <;> try simp)) ?_)
   (simp only [setn, List.nil_append, List.cons_append, leF, leH_nil, leH_cons, leF_nil, lk, scp, scpL, scpO, resF, resH, resO, resV, resVL, nth, Nat.reduceBEq, Nat.reduceLT, decide_true, decide_false, List.length, List.length_cons, List.length_nil, Nat.reduceAdd, Bool.and_self, Bool.and_true, and_true, true_and, numF] <;> try simp)
   rw [← isV_len ws', isV, isV, List.map_append, List.take_left]
  ·have hws : ws = [] := List.length_eq_zero_iff.1 (by have := of_decide_eq_false hz; omega)
   subst hws
   exact ret_rule (vs := [.slice (some ⟨g, 0, none⟩) os.length ps.length]) r34 rfl rfl fun W hW => hR _ _ ⟨some ⟨g, 0, none⟩, ps.length, os, rfl, ⟨hI.len, fun i b hb => hI.fin hb⟩, hW.owns (i := 0) rfl, hW.fresh'⟩
end Go.Proofs.YtlbiogokpadaoaaGreatDoor
namespace Go.Proofs.YtlbiogokpadaoaaGreatDoor
open Go Go.Sx Go.Isa Go.Asm
set_option maxRecDepth 100000
def fewT : B := [115, 101, 116, 32, 49, 32, 48, 10, 101, 113, 32, 49, 32, 50, 32, 52, 10, 115, 101, 116, 32, 49, 32, 49, 10, 106, 117, 109, 112, 32, 49, 10, 104, 97, 108, 116]
def fewL : List In := [⟨2, 1, 0, 0, 0⟩, ⟨14, 1, 2, 0, 4⟩, ⟨2, 1, 0, 0, 1⟩, ⟨13, 0, 0, 0, 1⟩, ⟨1, 0, 0, 0, 0⟩]
theorem few_is : asmL fewT = (fewL, [], 0) := by kernel_rfl
theorem few_bg : bgL fewL = [0, 1, 2, 4] := by
 unfold bgL
 rw [if_neg (by simp [fewL])]
 exact upI_of (by kernel_rfl) (by kernel_rfl)
theorem few_parts : partsL fewL = [⟨0, 1, [1]⟩, ⟨1, 2, [2, 3]⟩, ⟨2, 4, [1]⟩, ⟨4, 5, []⟩] := by
 have n0 : nxL fewL [0, 1, 2, 4] 1 = [1] := upI_of (by kernel_rfl) (by kernel_rfl)
 have n1 : nxL fewL [0, 1, 2, 4] 2 = [2, 3] := upI_of (by kernel_rfl) (by kernel_rfl)
 have n2 : nxL fewL [0, 1, 2, 4] 4 = [1] := upI_of (by kernel_rfl) (by kernel_rfl)
 have n3 : nxL fewL [0, 1, 2, 4] 5 = [] := upI_of (by kernel_rfl) (by kernel_rfl)
 unfold partsL
 rw [few_bg]
 show [partL fewL [0, 1, 2, 4] 0, partL fewL [0, 1, 2, 4] 1, partL fewL [0, 1, 2, 4] 2, partL fewL [0, 1, 2, 4] 3] = _
 show [(⟨0, 1, nxL fewL [0, 1, 2, 4] 1⟩ : Pa), ⟨1, 2, nxL fewL [0, 1, 2, 4] 2⟩, ⟨2, 4, nxL fewL [0, 1, 2, 4] 4⟩, ⟨4, 5, nxL fewL [0, 1, 2, 4] 5⟩] = _
 rw [n0, n1, n2, n3]
theorem few32 (w : World) (hG : ShAt w) (hT : TabAt w) (hLb : LibAt w) : CallsV Tryz.prog 32 [] w fun v w' => ∃ (A : Option Addr) (c : Nat), v = .slice A fewL.length c ∧ World.ownsB w' w.heap.size 41 5 (.slice A fewL.length c) fewL.length (cellsI fewL) ∧ Fresh w w' := by
 refine calls_go (keep := K32) (nt := 10) (svs := []) Tryz.func32 x32 n32 (by simp) (by simp [IsL]) fun R hR => ?_
 (refine Y_go 600 ?_; dsimp only [X32, numF, zq9r, zq9q, Y_k, zq4u, zq8p, zq6u, YK, zq8t, zq9i, normF, zq6n, Nat.reduceBEq, zq6k, zq6l, zq6m, zq86, zq87, zq9y, t32n1, T32n1, zq9j])
 refine call_rule (vs := [.string ⟨⟨fewT⟩⟩]) rfl (R := fun W v W' => ∃ (A : Option Addr) (c : Nat), v = .tuple #[.slice A fewL.length c, .int .i64 0, .int .i64 0] ∧ World.ownsB W' W.heap.size 41 5 (.slice A fewL.length c) fewL.length (cellsI fewL) ∧ Fresh W W') (fun W hW => (assemble66 fewT W (by decide) (hG.keep hW.fresh') (hT.keep hW.fresh') (hLb.keep hW.fresh')).mono fun v w' h => by rw [few_is] at h; exact h) fun W v W' hW ⟨A, c, hv, ho, hk⟩ => ?_
 obtain ⟨A', c', e1, e2, e5, _⟩ := hW.gain ho hk
 injection e1 with e3 _ e4
 subst e3; subst e4; subst hv
 refine ⟨.tup [.own 0 0, .val (.int .i64 0), .val (.int .i64 0)], _, ?_, e2, e5, ?_⟩
 ·simp only [Is, IsL]; exact ⟨_, ⟨_, _, ⟨_, _, _, _, _, _, _, rfl, Nat.le_refl _, ⟨_, _, _, rfl⟩, fun _ => rfl⟩, ⟨_, _, rfl, ⟨_, _, rfl, rfl, rfl⟩, rfl⟩, rfl⟩, rfl⟩
 clear e5 e2 hW ho hk
 (refine Y_go 600 ?_; dsimp only [zq8t, List.nil_append, Y_k, zq4u, zq8o, zq6n, Nat.reduceBEq, zq6k, YK, zq5j, zq2f, nth, zq2e, zq6l, zq9i, normF, zq8f, zq87, zq9y, t32n0, T32n0, zq9r, zq9q, zq9x])
 exact ret_rule (vs := [.slice A fewL.length c]) r32 rfl rfl fun W hW => hR _ _ ⟨A, c, rfl, hW.owns (i := 0) rfl, hW.fresh'⟩
theorem alive16 (w : World) (hG : ShAt w) (hT : TabAt w) (hLb : LibAt w) : CallsV Tryz.prog 16 [] w fun v w' => v = .bool true ∧ Fresh w w' := by
 refine calls_go (keep := K16) (nt := 63) (svs := []) Tryz.func16 x16 n16 (by simp) (by simp [IsL]) fun R hR => ?_
 (refine Y_go 600 ?_; dsimp only [X16, numF, zq9r, zq9q, Y_k, zq4u, zq8p, zq6p, YK, zq8t, zq9i, normF, zq6n, Nat.reduceBEq, zq6k, zq6l, zq6m, zq86, zq8a, zq9y, t16n1, T16n1, zq9j])
 refine call_base (vs := []) rfl (R := fun W v W' => ∃ (A : Option Addr) (c : Nat), v = .slice A fewL.length c ∧ RowAt W' A (cellsI fewL) ∧ Fresh W W') (fun W hW => (few32 W (hG.keep hW.fresh') (hT.keep hW.fresh') (hLb.keep hW.fresh')).mono fun v w' ⟨A, c, h1, h2, h3⟩ => ⟨A, c, h1, .of_own h2 rfl, h3⟩) (fun _ _ _ h => by obtain ⟨_, _, _, _, h⟩ := h; exact h) fun W v W' hW ⟨A, c, hv, h1, h2⟩ _ => ?_
 subst hv
 have hw1 : Fresh w W' := Fresh.tr hW.fresh' h2
 refine ⟨.val (.slice A fewL.length c), by simp [Is], ?_⟩
 rw [show fps ([] : List SO) = [] from rfl]
 (refine Y_go 600 ?_; dsimp only [zq8t, zq9j])
 refine call_base (vs := [.slice A fewL.length c]) rfl (R := fun W v W' => ∃ u, v = .tuple #[u, .int .i64 0] ∧ PartsR fewL W u W') (fun W hW => parts17 fewL A c W (by decide) (h1.keep hW.fresh') ((hG.keep hw1).keep hW.fresh')) (fun _ _ _ h => by obtain ⟨_, _, _, _, _, _, _, _, _, _, h⟩ := h; exact h) fun W2 v W3 hW2 ⟨u, hv, pA, pc, ps, hu, k1, k2, k3, _, k4⟩ _ => ?_
 subst hv; subst hu
 have hw2 : Fresh w W3 := Fresh.tr (Fresh.tr hw1 hW2.fresh') k4
 have kr : RowAt W3 pA (cellsR ps) := .of_own k2 rfl
 rw [few_parts] at k1
 obtain ⟨p0, p1, p2, p3, rfl⟩ : ∃ p0 p1 p2 p3, ps = [p0, p1, p2, p3] := by
  match ps, congrArg List.length k1 with
  | [p0, p1, p2, p3], _ => exact ⟨p0, p1, p2, p3, rfl⟩
 refine ⟨.tup [.val (.slice pA 4 pc), .val (.int .i64 0)], by simp [Is, IsL], ?_⟩
 rw [show fps ([] : List SO) = [] from rfl]
 (refine Y_go 600 ?_; dsimp only [zq8t, Y_k, zq4u, zq8o, zq6n, Nat.reduceBEq, zq6k, YK, zq5j, zq2f, nth, zq2e, zq6l, zq9i, normF, zq87, zq8a, zq9y, t16n0, T16n0, zq9r, zq9q, zq50, zq8p, zq6q, zq04, zq92, zq9b, zq0i, zq9c, Y_gk, zq6d, YR, zq69, zq55, zq0r, zq4v, zq6p, zq0b, zq58, zq06, zq0w, Int.reduceToNat, Nat.reduceMul, zq5a, zq16, Nat.add_zero, zq5c, zq1p, zq1c, Nat.reduceAdd, List.nil_append, zq1b, zq18, zq1g, zq9x, YS, zq6b, zq0c])
 obtain ⟨a0, b0, c0⟩ := p0
 obtain ⟨a1, b1, c1⟩ := p1
 obtain ⟨a2, b2, c2⟩ := p2
 obtain ⟨a3, b3, c3⟩ := p3
 simp only [List.map_cons, List.map_nil, List.cons.injEq, and_true] at k1
 obtain ⟨rfl, rfl, rfl, rfl⟩ := k1
 have q3 : CellAt ⟨W3, W3.heap.size, [], 63, []⟩ pA 3 (.int .i64 1) := kr.cell rfl
 have q4 : CellAt ⟨W3, W3.heap.size, [], 63, []⟩ pA 4 (.int .i64 2) := kr.cell rfl
 have q5 : CellAt ⟨W3, W3.heap.size, [], 63, []⟩ pA 5 (.slice b1 2 c1) := kr.cell rfl
 have q11 : CellAt ⟨W3, W3.heap.size, [], 63, []⟩ pA 11 (.slice b3 0 c3) := kr.cell rfl
 have k31 := k3 ⟨⟨1, 2, [2, 3]⟩, b1, c1⟩ (by simp)
 have r0 : CellAt ⟨W3, W3.heap.size, [], 63, []⟩ b1 0 (.int .i64 2) := k31.cell rfl
 have r1 : CellAt ⟨W3, W3.heap.size, [], 63, []⟩ b1 1 (.int .i64 3) := k31.cell rfl
 have sA : pA.isSome = true := by obtain ⟨a, rfl, _⟩ := q3; rfl
 have sA1 : b1.isSome = true := by obtain ⟨a, rfl, _⟩ := r0; rfl
 have bd : (0 : Int) ≤ 1 ∧ (1 : Int) < ((4 : Nat) : Int) ∧ pA.isSome = true := ⟨by decide, by decide, sA⟩
 refine ⟨fun _ => ⟨fun _ => ⟨bd, sA, _, q3, fun _ => ⟨bd, sA, _, q4, fun _ => ⟨bd, sA, _, _, _, q5, fun _ => ⟨bd, sA, _, _, _, q5, ⟨by decide, by decide, sA1⟩, _, r0, fun _ => ⟨bd, sA, _, _, _, q5, ⟨by decide, by decide, sA1⟩, _, r1, fun _ => ⟨⟨by decide, by decide, sA⟩, sA, _, _, _, q11, ?_⟩, fun h => absurd h (by decide)⟩, fun h => absurd h (by decide)⟩, fun h => absurd h (by decide)⟩, fun h => absurd h (by decide)⟩, fun h => absurd h (by decide)⟩, fun h => absurd h (by decide)⟩, fun h => absurd h (by decide)⟩
 exact ret_rule (vs := [.bool true]) Go.Proofs.YtlbiogokpadaoaaGreatDoor.r16 rfl rfl fun W hW => hR _ _ ⟨rfl, Fresh.tr hw2 hW.fresh'⟩
end Go.Proofs.YtlbiogokpadaoaaGreatDoor
