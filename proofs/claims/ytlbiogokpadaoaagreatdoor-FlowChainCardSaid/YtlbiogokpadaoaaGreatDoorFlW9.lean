/- FlowCovers: the statement, walked. -/
import Derived.Test.YtlbiogokpadaoaaGreatDoorFlSteps
import Derived.Test.YtlbiogokpadaoaaGreatDoorFlCode
import Derived.Test.YtlbiogokpadaoaaGreatDoorFlCode2
set_option linter.unusedSimpArgs false
set_option linter.unusedVariables false
set_option linter.unnecessarySimpa false
namespace Go.Proofs.YtlbiogokpadaoaaGreatDoor
open Go Go.Sx Go.Isa Go.Asm
set_option maxRecDepth 100000
theorem nxs_parts {l : List In} {ps : List PR} (h : ps.map PR.pa = partsL l) {i : Nat} {p : PR} (hp : ps[i]? = some p) : p.pa = partL l (bgL l) i := by
 have h2 := congrArg (fun z => z[i]?) h
 simp only [List.getElem?_map, hp, Option.map_some] at h2
 have hi : i < ps.length := (List.getElem?_eq_some_iff.1 hp).1
 rw [partsL_get (by rw [← partsR_len h]; exact hi)] at h2
 injection h2
theorem nxs_nn {l : List In} {ps : List PR} (h : ps.map PR.pa = partsL l) : ∀ s ∈ nxs ps, s.length ≤ 2 ∧ ∀ j ∈ s, (0 : Int) ≤ j := by
 intro s hs
 unfold nxs at hs
 obtain ⟨p, hp, rfl⟩ := List.mem_map.1 hs
 obtain ⟨i, hi⟩ := List.getElem?_of_mem hp
 have e := nxs_parts h hi
 have hlt : i < (bgL l).length := by rw [← partsR_len h]; exact (List.getElem?_eq_some_iff.1 hi).1
 have hb : (bgL l)[i]? = some (bgL l)[i] := List.getElem?_eq_getElem hlt
 rw [e]
 exact ⟨nxL_len _ _ _, fun j hj => (nxL_range hb hj).1⟩
def ReachR (nx : List (List Int)) (wo : Int) (w : World) (v : Value) (w' : World) : Prop := ∃ (A : Option Addr) (c : Nat) (os : List Bool), v = .slice A os.length c ∧ ReachOk nx wo os ∧ World.ownsB w' w.heap.size 4 1 (.slice A os.length c) os.length (bsV os) ∧ Fresh w w'
theorem reached18 (l : List In) (nx : List (List Int)) (hnx : nx = (partsL l).map Pa.nx) (B : Option Addr) (bc : Nat) (w : World) (hl : l.length ≤ 1024) (hB : RowAt w B (cellsI l)) (hG : ShAt w) :
  CallsV Tryz.prog 18 [.slice B l.length bc] w fun v w' => ∃ u, v = .tuple #[u, .int .i64 0] ∧ ReachR nx (-1) w u w' := by
 refine calls_go (keep := K18) (nt := 10) (svs := [.val (.slice B l.length bc)]) Tryz.func18 x18 n18 (by simp) (by simp [IsL, Is]) fun R hR => ?_
 (refine Y_go 600 ?_; dsimp only [X18, numF, Nat.reduceAdd, zq9r, zq9q, Y_k, zq4u, zq8p, zq6u, YK, zq8t, zq6q, zq9i, normF, zq6n, Nat.reduceBEq, zq6l, zq6k, zq6m, zq86, zq87, zq9y, t18n2, T18n2, zq8o, zq55, zq0r, zq50, zq04, zq92, zq9b, zq0i, zq9g, zq9s, zq6h, zq8x, YC, t18n0, T18n0, zq89, zq9x, zq9p, t18n1, T18n1, zq9j])
 refine ⟨fun h => absurd (of_decide_eq_true h) (by omega), fun _ => ?_⟩
 refine call_base (vs := [.slice B l.length bc]) rfl (R := fun W v W' => PartsR l W v W') (fun W hW => parts33 l B bc W hl (hB.keep hW.fresh') (hG.keep hW.fresh')) (fun _ _ _ h => by obtain ⟨_, _, _, _, _, _, _, _, h⟩ := h; exact h) fun W v W' hW ⟨A, c, ps, hv, h1, h2, h3, h5, h4⟩ ov => ?_
 subst hv
 have hw1 : Fresh w W' := Fresh.tr hW.fresh' h4
 have hr : RowAt W' A (cellsR ps) := .of_own h2 rfl
 have hpl := partsR_len h1
 have hbn := bgL_len l
 have enx : nxs ps = nx := by rw [hnx, ← h1]; simp [nxs]
 refine ⟨.val (.slice A ps.length c), by simp [Is], ?_⟩
 rw [show fps ([] : List SO) = [] from rfl]
 (refine Y_go 600 ?_; dsimp only [zq8t, zq9j])
 refine call_base (vs := [.slice A ps.length c, .int .i64 (-1)]) rfl (R := fun W v W' => ReachR nx (-1) W v W') (fun W hW => enx ▸ reach34 ps (-1) A c W (by omega) (hr.keep hW.fresh') (h3.keep hW.fresh') (nxs_nn h1)) (fun _ _ _ h => by obtain ⟨_, _, _, _, _, _, h⟩ := h; exact h) fun W2 v W3 hW2 ⟨A2, c2, os, hv, k1, k2, k3⟩ _ => ?_
 subst hv
 have hw2 : Fresh w W3 := Fresh.tr (Fresh.tr hw1 hW2.fresh') k3
 refine ⟨.val (.slice A2 os.length c2), by simp [Is], ?_⟩
 rw [show fps ([] : List SO) = [] from rfl]
 (refine Y_go 600 ?_; dsimp only [zq8t, Y_k, zq4u, zq8o, zq6n, Nat.reduceBEq, zq6k, YK, zq8p, zq6q, zq9i, normF, zq6l, zq8a, zq87, zq9x])
 have hlow := ownsB_low k2 (Nat.le_trans hw1.size hW2.fresh'.size)
 exact ret_rule (vs := [_, _]) r18 rfl rfl fun W4 hW4 => hR _ _ ⟨_, rfl, A2, c2, os, rfl, k1, ownsB_keep hlow hW4.fresh', Fresh.tr hw2 hW4.fresh'⟩
structure BhOk (nx : List (List Int)) (os : List Bool) (i k : Nat) (bh : List Bool) : Prop where
 len : bh.length = nx.length
 iff : ∀ j : Nat, j < nx.length → (bh[j]? = some true ↔ ∃ (i' : Nat) (s : List Int), nx[i']? = some s ∧ os[i']? = some true ∧ ((i' < i ∧ (j : Int) ∈ s) ∨ (i' = i ∧ (j : Int) ∈ s.take k)))
theorem BhOk.start (nx : List (List Int)) (os : List Bool) : BhOk nx os 0 0 (List.replicate nx.length false) := ⟨by simp, fun j hj => by
 rw [List.getElem?_replicate, if_pos hj]
 constructor
 ·intro h; simp at h
 ·rintro ⟨i', s, _, _, ⟨h, _⟩ | ⟨_, h⟩⟩
  ·omega
  ·simp at h⟩
theorem BhOk.next {nx : List (List Int)} {os : List Bool} {i : Nat} {s : List Int} {bh : List Bool} (h : BhOk nx os i s.length bh) (hs : nx[i]? = some s) : BhOk nx os (i + 1) 0 bh := ⟨h.len, fun j hj => by
 rw [h.iff j hj]
 constructor
 ·rintro ⟨i', s', h1, h2, ⟨h3, h4⟩ | ⟨h3, h4⟩⟩
  ·exact ⟨i', s', h1, h2, .inl ⟨by omega, h4⟩⟩
  ·subst h3
   rw [hs] at h1; injection h1 with h1; subst h1
   rw [List.take_length] at h4
   exact ⟨i', s, hs, h2, .inl ⟨by omega, h4⟩⟩
 ·rintro ⟨i', s', h1, h2, ⟨h3, h4⟩ | ⟨h3, h4⟩⟩
  ·by_cases e : i' = i
   ·subst e
    rw [hs] at h1; injection h1 with h1; subst h1
    exact ⟨i', s, hs, h2, .inr ⟨rfl, by rw [List.take_length]; exact h4⟩⟩
   ·exact ⟨i', s', h1, h2, .inl ⟨by omega, h4⟩⟩
  ·simp at h4⟩
theorem BhOk.one {nx : List (List Int)} {os : List Bool} {i k : Nat} {s : List Int} {bh : List Bool} {m : Nat} {r b : Bool} (h : BhOk nx os i k bh) (hs : nx[i]? = some s) (hm : s[k]? = some (m : Int)) (hml : m < nx.length) (hr : os[i]? = some r) (hb : bh[m]? = some b) : BhOk nx os i (k + 1) (bh.set m (b || r)) := ⟨by rw [List.length_set]; exact h.len, fun j hj => by
 have hbl : m < bh.length := by rw [h.len]; exact hml
 have key : (bh.set m (b || r))[j]? = some true ↔ bh[j]? = some true ∨ (m = j ∧ r = true) := by
  rw [List.getElem?_set]
  by_cases e : m = j
  ·subst e
   rw [if_pos rfl, if_pos hbl, hb]
   cases b <;> cases r <;> simp
  ·rw [if_neg e]; simp [e]
 rw [key, h.iff j hj]
 constructor
 ·rintro (⟨i', s', h1, h2, h3 | ⟨h3, h4⟩⟩ | ⟨h1, h2⟩)
  ·exact ⟨i', s', h1, h2, .inl h3⟩
  ·subst h3
   rw [hs] at h1; injection h1 with h1; subst h1
   exact ⟨i', s, hs, h2, .inr ⟨rfl, by rw [takeI_snoc hm]; simp [h4]⟩⟩
  ·subst h1; subst h2
   exact ⟨i, s, hs, hr, .inr ⟨rfl, by rw [takeI_snoc hm]; simp⟩⟩
 ·rintro ⟨i', s', h1, h2, h3 | ⟨h3, h4⟩⟩
  ·exact .inl ⟨i', s', h1, h2, .inl h3⟩
  ·subst h3
   rw [hs] at h1; injection h1 with h1; subst h1
   rw [takeI_snoc hm, List.mem_append, List.mem_singleton] at h4
   rcases h4 with h4 | h4
   ·exact .inl ⟨i', s, hs, h2, .inr ⟨rfl, h4⟩⟩
   ·rw [hr] at h2; injection h2 with h2
    exact .inr ⟨by omega, h2⟩⟩
theorem BhOk.fin {nx : List (List Int)} {os bh : List Bool} (h : BhOk nx os nx.length 0 bh) (hr : ReachOk nx (-1) os) {i : Nat} {r b : Bool} (hi : os[i]? = some r) (hb : bh[i]? = some b) : r = (decide (i = 0) || b) := by
 have hil : i < nx.length := by rw [← hr.1]; exact (List.getElem?_eq_some_iff.1 hi).1
 have h1 := hr.2 i r hi
 have h2 := h.iff i hil
 rw [hb, Option.some.injEq] at h2
 rw [Bool.eq_iff_iff, h1]
 simp only [Bool.or_eq_true, decide_eq_true_eq]
 rw [h2]
 constructor
 ·intro hr2
  cases hr2 with
  | base _ _ => exact .inl rfl
  | @step i' j s hi' hs hj hl hne =>
   refine .inr ⟨i', s, hs, ?_, .inl ⟨hi'.lt, hj⟩⟩
   have hlt : i' < os.length := by rw [hr.1]; exact hi'.lt
   have he : os[i']? = some os[i'] := List.getElem?_eq_getElem hlt
   rw [he, (hr.2 i' _ he).2 hi']
 ·rintro (h | ⟨i', s, hs, ho, ⟨_, hj⟩ | ⟨_, hj⟩⟩)
  ·subst h; exact .base hil (by omega)
  ·exact .step ((hr.2 i' true ho).1 rfl) hs hj hil (by omega)
  ·simp at hj
end Go.Proofs.YtlbiogokpadaoaaGreatDoor
namespace Go.Proofs.YtlbiogokpadaoaaGreatDoor
open Go Go.Sx Go.Isa Go.Asm
set_option maxRecDepth 100000
structure RB where
 os : List Bool
 A : Option Addr
 c : Nat
def RB.cell (r : RB) : Value := .slice r.A r.os.length r.c
def cellsB (rs : List RB) : List Value := rs.map RB.cell
theorem cellsB_get {rs : List RB} {i : Nat} {r : RB} (h : rs[i]? = some r) : (cellsB rs)[i]? = some (.slice r.A r.os.length r.c) := by
 unfold cellsB; rw [List.getElem?_map, h]; rfl
def RbAt (w : World) (rs : List RB) : Prop := ∀ r ∈ rs, RowAt w r.A (bsV r.os)
def RbE (E : Env) (rs : List RB) : Prop := ∀ r ∈ rs, RowE E r.A (bsV r.os)
theorem RbAt.keep {w w' : World} {rs : List RB} (h : RbAt w rs) (k : Fresh w w') : RbAt w' rs := fun r hr => (h r hr).keep k
theorem RbE.over {E E' : Env} {rs : List RB} (h : RbE E rs) (o : Over E E') : RbE E' rs := fun r hr => (h r hr).over o
theorem RbE.at {E : Env} {rs : List RB} {H : List SO} {W : World} (h : RbE E rs) (hW : HeapOk E H W) : RbAt W rs := fun r hr => (h r hr).at hW
theorem RbE.snoc {E : Env} {rs : List RB} {r : RB} (h : RbE E rs) (hr : RowE E r.A (bsV r.os)) : RbE E (rs ++ [r]) := fun q hq => by
 rcases List.mem_append.1 hq with e | e
 ·exact h q e
 ·simp only [List.mem_singleton] at e; subst e; exact hr
def DomOk (nx : List (List Int)) (i : Nat) (os : List Bool) : Prop := os.length = nx.length ∧ ∀ k b, os[k]? = some b → (b = true ↔ Rch nx (-1) k ∧ ¬ Rch nx i k)
def MixOk (al ro : List Bool) (k : Nat) (cu : List Bool) : Prop := cu.length = ro.length ∧ ∀ j, j < ro.length → cu[j]? = some (if j < k then (al.getD j false && !ro.getD j false) else ro.getD j false)
theorem MixOk.start (al ro : List Bool) : MixOk al ro 0 ro := ⟨rfl, fun j hj => by
 rw [if_neg (by omega), List.getD_eq_getElem?_getD, List.getElem?_eq_getElem hj]; rfl⟩
theorem MixOk.at {al ro cu : List Bool} {k : Nat} (h : MixOk al ro k cu) (hk : k < ro.length) : cu[k]? = some (ro.getD k false) := by
 rw [h.2 k hk, if_neg (by omega)]
theorem MixOk.step {al ro cu : List Bool} {k : Nat} {v : Bool} (h : MixOk al ro k cu) (hk : k < ro.length) (hv : v = (al.getD k false && !ro.getD k false)) : MixOk al ro (k + 1) (cu.set k v) := ⟨by rw [List.length_set]; exact h.1, fun j hj => by
 rw [List.getElem?_set]
 by_cases e : k = j
 ·subst e
  rw [if_pos rfl, if_pos (by rw [h.1]; exact hk), if_pos (by omega), hv]
 ·rw [if_neg e, h.2 j hj]
  by_cases h2 : j < k
  ·rw [if_pos h2, if_pos (by omega)]
  ·rw [if_neg h2, if_neg (by omega)]⟩
theorem MixOk.fin {nx : List (List Int)} {al ro cu : List Bool} {i : Nat} (h : MixOk al ro ro.length cu) (ha : ReachOk nx (-1) al) (hr : ReachOk nx i ro) : DomOk nx i cu := ⟨by rw [h.1]; exact hr.1, fun k b hb => by
 have hk : k < ro.length := by rw [← h.1]; exact (List.getElem?_eq_some_iff.1 hb).1
 rw [h.2 k hk, if_pos hk] at hb
 injection hb with hb
 have hka : k < al.length := by rw [ha.1, ← hr.1]; exact hk
 have h1 : al[k]? = some al[k] := List.getElem?_eq_getElem hka
 have h2 : ro[k]? = some ro[k] := List.getElem?_eq_getElem hk
 have g1 := ha.2 k _ h1
 have g2 := hr.2 k _ h2
 rw [List.getD_eq_getElem?_getD, h1, List.getD_eq_getElem?_getD, h2] at hb
 simp only [Option.getD_some] at hb
 rw [← hb, Bool.and_eq_true, g1, Bool.not_eq_true', ← g2, Bool.not_eq_true]⟩
theorem dom35 (ps : List PR) (B : Option Addr) (bc : Nat) (w : World) (hl : ps.length ≤ 100000) (hB : RowAt w B (cellsR ps)) (hN : NxAt w ps) (hnn : ∀ s ∈ nxs ps, s.length ≤ 2 ∧ ∀ j ∈ s, (0 : Int) ≤ j) :
  CallsV Tryz.prog 35 [.slice B ps.length bc] w fun v w' => ∃ (A : Option Addr) (c : Nat) (rs : List RB), v = .slice A rs.length c ∧ rs.length = ps.length ∧ (∀ i r, rs[i]? = some r → DomOk (nxs ps) i r.os) ∧ World.ownsB w' w.heap.size 30 1 (.slice A rs.length c) rs.length (cellsB rs) ∧ RbAt w' rs ∧ Fresh w w' := by
 refine calls_go (keep := K35) (nt := 44) (svs := [.val (.slice B ps.length bc)]) Tryz.func35 x35 n35 (by simp) (by simp [IsL, Is]) fun R hR => ?_
 have hnl : (nxs ps).length = ps.length := by simp [nxs]
 (refine Y_go 600 ?_; dsimp only [X35, numF, Nat.reduceAdd, zq9r, zq9q, Y_k, zq4u, zq8p, zq6u, YK, zq8t, zq9i, normF, zq6n, Nat.reduceBEq, zq6l, zq6k, zq6m, zq86, zq87, zq9y, t35n13, T35n13, zq8o, zq9j])
 refine call_base (vs := [.slice B ps.length bc, .int .i64 (-1)]) rfl (R := fun W v W' => ReachR (nxs ps) (-1) W v W') (fun W hW => reach34 ps (-1) B bc W hl (hB.keep hW.fresh') (hN.keep hW.fresh') hnn) (fun _ _ _ h => by obtain ⟨_, _, _, _, _, _, h⟩ := h; exact h) fun W2 v W3 hW2 ⟨A2, c2, al, hv, j1, k2, k3⟩ _ => ?_
 subst hv
 have hw3 : Fresh w W3 := Fresh.tr hW2.fresh' k3
 have ka : RowE ⟨W3, W3.heap.size, [], 44, []⟩ A2 (bsV al) := (RowAt.of_own k2 rfl).toE (by simp) 44 []
 have kB : RowE ⟨W3, W3.heap.size, [], 44, []⟩ B (cellsR ps) := (hB.keep hw3).toE (by simp) 44 []
 have kN : NxE ⟨W3, W3.heap.size, [], 44, []⟩ ps := (hN.keep hw3).toE 44 []
 have hal : al.length = ps.length := by rw [j1.1, hnl]
 refine ⟨.val (.slice A2 al.length c2), by simp [Is], ?_⟩
 rw [show fps ([] : List SO) = [] from rfl]
 (refine Y_go 600 ?_; dsimp only [zq8t, Y_k, zq4u, zq8o, zq6n, Nat.reduceBEq, zq6k, YK, zq9i, normF, zq6l, zq6m, zq86, zq87, zq9y, t35n12, T35n12, zq9r, zq9q, zq8p, zq6u, t35n11, T35n11, zq55, zq0r, zq6q, zq9t, zq9v])
 refine loop_go (α := List RB × Option Addr × Nat × World × Nat × List Nat) (fun q => q.1.length ≤ ps.length ∧ (∀ i r, q.1[i]? = some r → DomOk (nxs ps) i r.os) ∧ Over ⟨W3, W3.heap.size, [], 44, []⟩ ⟨q.2.2.2.1, q.2.2.2.2.1, q.2.2.2.2.2, 44, []⟩ ∧ RbE ⟨q.2.2.2.1, q.2.2.2.2.1, q.2.2.2.2.2, 44, []⟩ q.1)
  (fun q => ⟨q.2.2.2.1, q.2.2.2.2.1, q.2.2.2.2.2, 44, []⟩)
  (fun q => { F := [(0, .val (.slice B ps.length bc)), (3, .val (.slice A2 al.length c2)), (4, .own 0 0), (11, .val (.int .i64 (ps.length : Int))), (12, .val (.int .i64 (q.1.length : Int)))], H := [.own 30 0 1 q.2.1 q.1.length q.2.2.1 (cellsB q.1)] })
  (fun q => ps.length - q.1.length) (fun _ => rfl) ?start ?round
 case start =>
  intro a W rep
  have rep1 := (rep.le (s' := { F := [(0, .val (.slice B ps.length bc)), (3, .val (.slice A2 al.length c2)), (4, .val (.slice none 0 0)), (11, .val (.int .i64 (ps.length : Int))), (12, .val (.int .i64 0))], H := [] }) (by (simp only [setn, List.nil_append, List.cons_append, leF, leH_nil, leH_cons, leF_nil, lk, scp, scpL, scpO, resF, resH, resO, resV, resVL, nth, Nat.reduceBEq, Nat.reduceLT, decide_true, decide_false, List.length, List.length_cons, List.length_nil, Nat.reduceAdd, Bool.and_self, Bool.and_true, and_true, true_and, numF] <;> try simp)) (by (simp only [setn, List.nil_append, List.cons_append, leF, leH_nil, leH_cons, leF_nil, lk, scp, scpL, scpO, resF, resH, resO, resV, resVL, nth, Nat.reduceBEq, Nat.reduceLT, decide_true, decide_false, List.length, List.length_cons, List.length_nil, Nat.reduceAdd, Bool.and_self, Bool.and_true, and_true, true_and, numF] <;> try simp))).adopt 4 30 1 rfl
  exact ⟨([], none, 0, W3, W3.heap.size, []), ⟨Nat.zero_le _, fun i r h => by simp at h, Over.refl _, fun p hp => by simp at hp⟩, rep1.le (by (simp only [setn, List.nil_append, List.cons_append, leF, leH_nil, leH_cons, leF_nil, lk, scp, scpL, scpO, resF, resH, resO, resV, resVL, nth, Nat.reduceBEq, Nat.reduceLT, decide_true, decide_false, List.length, List.length_cons, List.length_nil, Nat.reduceAdd, Bool.and_self, Bool.and_true, and_true, true_and, numF] <;> try simp)) (by (simp only [setn, List.nil_append, List.cons_append, leF, leH_nil, leH_cons, leF_nil, lk, scp, scpL, scpO, resF, resH, resO, resV, resVL, nth, Nat.reduceBEq, Nat.reduceLT, decide_true, decide_false, List.length, List.length_cons, List.length_nil, Nat.reduceAdd, Bool.and_self, Bool.and_true, and_true, true_and, numF] <;> try simp); rfl)⟩
 case round =>
  rintro ⟨rs, oA, oC, b, N, st⟩ ⟨hk, hd, hov, hrb⟩ I again
  simp only at hk hd hov hrb ⊢
  (refine Y_go 600 ?_; dsimp only [zq9y, t35n9, T35n9, zq9r, zq9q, Y_k, zq50, zq8o, zq6n, Nat.reduceBEq, zq6l, zq6k, zq04, zq92, zq9b, zq0i, zq9e, YK, zq8t, zq9i, normF, zq6m, zq86, zq87, zq8f, t35n8, T35n8, zq9s, zq6h, zq8x, YC, zq9p, t35n7, T35n7, zq9t, zq4u, zq89, t35n6, T35n6, zq9j, zq9u, popTo, zq6i, YP, t35n10, T35n10, zq8a, zq9x])
  refine ⟨fun hlt => ?_, fun hge => ?_⟩
  ·have hlt : rs.length < ps.length := by have := of_decide_eq_true hlt; omega
   refine call_rule (vs := [.slice B ps.length bc, .int .i64 (rs.length : Int)]) rfl (R := fun W v W' => ReachR (nxs ps) (rs.length : Int) W v W') (fun W hW => reach34 ps rs.length B bc W hl ((kB.over hov).at hW) ((kN.over hov).at hW) hnn) fun W v W' hW ⟨A, c, ro, hv, h1, ho, hk2⟩ => ?_
   obtain ⟨A', c', e1, e2, e5, _⟩ := hW.gain ho hk2
   injection e1 with e3 _ e4
   subst e3; subst e4; subst hv
   refine ⟨.own 1 0, _, ?_, e2, e5, ?_⟩
   ·simp only [Is]; exact ⟨_, _, _, _, _, _, _, rfl, Nat.le_refl _, ⟨_, _, _, rfl⟩, fun _ => rfl⟩
   clear e5 e2 hW ho hk2
   have hrl : ro.length = ps.length := by rw [h1.1, hnl]
   (refine Y_go 600 ?_; dsimp only [zq8t, List.cons_append, List.nil_append, Y_k, zq4u, zq8o, zq6n, Nat.reduceBEq, zq6k, YK, zq9i, normF, zq6l, zq6m, zq86, zq89, zq87, zq8f, zq9y, t35n5, T35n5, zq9r, zq9q, zq55, zq0t, nth, zq09, zq08, zq0q, zq8p, zq6q, zq9t, zq9v])
   refine loop_go (α := Nat × List Bool) (fun q => q.1 ≤ ro.length ∧ MixOk al ro q.1 q.2) (fun _ => ⟨b, N, st, 44, []⟩) (fun q => { F := [(0, .val (.slice B ps.length bc)), (3, .val (.slice A2 al.length c2)), (4, .own 0 0), (6, .own 1 0), (11, .val (.int .i64 (ps.length : Int))), (12, .val (.int .i64 (rs.length : Int))), (19, .val (.int .i64 (ro.length : Int))), (20, .val (.int .i64 (q.1 : Int)))], H := [.own 30 0 1 oA rs.length oC (cellsB rs), .own 4 0 1 A q.2.length c (bsV q.2)] }) (fun q => ro.length - q.1) (fun _ => rfl) ?start2 ?round2
   case start2 =>
    intro a W rep
    exact ⟨(0, ro), ⟨Nat.zero_le _, MixOk.start al ro⟩, rep.le (by (simp only [setn, List.nil_append, List.cons_append, leF, leH_nil, leH_cons, leF_nil, lk, scp, scpL, scpO, resF, resH, resO, resV, resVL, nth, Nat.reduceBEq, Nat.reduceLT, decide_true, decide_false, List.length, List.length_cons, List.length_nil, Nat.reduceAdd, Bool.and_self, Bool.and_true, and_true, true_and, numF] <;> try simp)) (by (simp only [setn, List.nil_append, List.cons_append, leF, leH_nil, leH_cons, leF_nil, lk, scp, scpL, scpO, resF, resH, resO, resV, resVL, nth, Nat.reduceBEq, Nat.reduceLT, decide_true, decide_false, List.length, List.length_cons, List.length_nil, Nat.reduceAdd, Bool.and_self, Bool.and_true, and_true, true_and, numF] <;> try simp))⟩
   case round2 =>
    rintro ⟨k, cu⟩ ⟨hkk, hm⟩ I2 again2
    simp only at hkk hm ⊢
    have hcl : cu.length = ro.length := hm.1
    (refine Y_go 600 ?_; dsimp only [zq9y, t35n3, T35n3, zq9r, zq9q, Y_k, zq50, zq8o, zq6n, Nat.reduceBEq, zq6l, zq6k, zq04, zq92, zq9b, zq0i, zq9e, YK, zq8t, zq9i, normF, zq6m, zq87, zq86, zq8f, t35n2, T35n2, zq9s, zq6h, zq8x, YC, zq9p, t35n1, T35n1, zq9t, zq4u, zq89, t35n0, T35n0, zq58, zq06, zq0w, zq5c, zq1p, zq1d, List.nil_append, zq1b, zq18, Y_gk, zq6d, YR, zq69, zq0y, nth, zq09, zq08, zq0v, zq1q, zq1n, zq53, zq0o, zq4v, zq8p, zq6p, zq0b, zq5d, zq7u, zq7g, zq0a, zq1y, zq1w, denL, den, zq1v, splice, setn, zq8s, zqa1, zq4w, zq6q, zq0e, zqa2, YS, zq6b, zq0c, zq7w, zq7i, zq9u, popTo, zq6i, YP, t35n4, T35n4, zq5h, List.map, zq6u, repL, List.cons_append, zq23, Nat.reduceMul, zq81, zq7n, dropL, takeL, zq20, zq24, zq26, List.length_cons, List.length_nil, Nat.reduceAdd, zq5l, zq2w, zq2s, zq2r, zq2n, zq2j, zq2k, zq8l, zq8m, zq8k, zq2l, zq2h, zq8a])
    refine ⟨fun hlt2 => ?_, fun hge2 => ?_⟩
    ·have hlt2 : k < ro.length := by have := of_decide_eq_true hlt2; omega
     have hk1 : ((k : Nat) : Int).toNat = k := by omega
     have ha1 : al[k]? = some al[k] := List.getElem?_eq_getElem (by omega)
     have gc := hm.at hlt2
     have hst := hm.step hlt2 (v := (al.getD k false && !ro.getD k false)) rfl
     have hgd : al.getD k false = al[k] := by rw [List.getD_eq_getElem?_getD, ha1]; rfl
     rw [hgd] at hst
     generalize al[k] = x at ha1 hst
     generalize ro.getD k false = y at gc hst
     have qa : CellAt ⟨b, N, st, 44, []⟩ A2 (k * 1) (.bool x) := (ka.over hov).cell (by rw [Nat.mul_one]; exact bsV_get ha1)
     have sA : A2.isSome = true := by obtain ⟨a, h, _⟩ := qa; rw [h]; rfl
     have bda : (0 : Int) ≤ (k : Int) ∧ (k : Int) < (al.length : Int) ∧ A2.isSome = true := ⟨by omega, by omega, sA⟩
     have bdc : (0 : Int) ≤ (k : Int) ∧ (k : Int) < (cu.length : Int) := ⟨by omega, by omega⟩
     have gb : (bsV cu)[k * 1]? = some (.bool y) := by rw [Nat.mul_one]; exact bsV_get gc
     have lb : k * 1 + 1 ≤ (bsV cu).length := by rw [bsV_len]; omega
     have k64 : ArOk .add .i64 (k : Int) 1 ((k + 1 : Nat) : Int) := ArOk.to (by omega) (by omega) (by omega)
     rw [hk1]
     have go : ∀ a W (F : List (Nat × SV)) (v : Bool), v = (x && !y) → leF 2 F [(0, .val (.slice B ps.length bc)), (3, .val (.slice A2 al.length c2)), (4, .own 0 0), (6, .own 1 0), (11, .val (.int .i64 (ps.length : Int))), (12, .val (.int .i64 (rs.length : Int))), (19, .val (.int .i64 (ro.length : Int))), (20, .val (.int .i64 ((k + 1 : Nat) : Int)))] → Rep ⟨b, N, st, 44, []⟩ { F := F, H := [.own 30 0 1 oA rs.length oC (cellsB rs), .own 4 0 1 A cu.length c (setn (bsV cu) (k * 1) (.bool v))] } a W → I2 a W := fun a W F v hv hF rep =>
      again2 (k + 1, cu.set k (x && !y)) ⟨by simp only; omega, hst⟩ (by simp only; omega) a W (rep.le hF (by rw [Nat.mul_one, bsV_set, hv]; simp only [List.length_set]; (simp only [setn, List.nil_append, List.cons_append, leF, leH_nil, leH_cons, leF_nil, lk, scp, scpL, scpO, resF, resH, resO, resV, resVL, nth, Nat.reduceBEq, Nat.reduceLT, decide_true, decide_false, List.length, List.length_cons, List.length_nil, Nat.reduceAdd, Bool.and_self, Bool.and_true, and_true, true_and, numF] <;> try simp)))
     exact ⟨bda, x, qa, fun hx => ⟨bdc, y, gb, bdc, lb, _, k64, lend_rule fun a W rep => go a W _ _ (by simp [hx]) (by (simp only [setn, List.nil_append, List.cons_append, leF, leH_nil, leH_cons, leF_nil, lk, scp, scpL, scpO, resF, resH, resO, resV, resVL, nth, Nat.reduceBEq, Nat.reduceLT, decide_true, decide_false, List.length, List.length_cons, List.length_nil, Nat.reduceAdd, Bool.and_self, Bool.and_true, and_true, true_and, numF] <;> try simp)) rep⟩, fun hx => ⟨bdc, lb, _, k64, lend_rule fun a W rep => go a W _ _ (by simp [hx]) (by (simp only [setn, List.nil_append, List.cons_append, leF, leH_nil, leH_cons, leF_nil, lk, scp, scpL, scpO, resF, resH, resO, resV, resVL, nth, Nat.reduceBEq, Nat.reduceLT, decide_true, decide_false, List.length, List.length_cons, List.length_nil, Nat.reduceAdd, Bool.and_self, Bool.and_true, and_true, true_and, numF] <;> try simp)) rep⟩⟩
    ·have hke : k = ro.length := by have := of_decide_eq_false hge2; omega
     subst hke
     have hdo := hm.fin j1 h1
     intro g5
     refine ⟨⟨by simp only [maxLen]; omega, by omega⟩, fun A5 c5 => ⟨((rs.length + 1 : Nat) : Int), ArOk.to (by omega) (by omega) (by omega), lend_rule fun a W rep => ?_⟩⟩
     have rep2 : Rep ⟨b, N, st, 44, []⟩ { F := [(0, .val (.slice B ps.length bc)), (3, .val (.slice A2 al.length c2)), (4, .own 0 0), (11, .val (.int .i64 (ps.length : Int))), (12, .val (.int .i64 ((rs ++ [(⟨cu, A, c⟩ : RB)]).length : Int)))], H := [.own 30 0 1 A5 (rs ++ [(⟨cu, A, c⟩ : RB)]).length c5 (cellsB (rs ++ [⟨cu, A, c⟩]))] ++ [.own 4 0 1 A cu.length c (bsV cu)] } a W := by
      have hl2 : (rs ++ [(⟨cu, A, c⟩ : RB)]).length = rs.length + 1 := by simp
      have hc2 : cellsB (rs ++ [⟨cu, A, c⟩]) = cellsB rs ++ [.slice A cu.length c] := by simp [cellsB, RB.cell]
      rw [hl2, hc2]
      exact rep.res.le (by (simp only [setn, List.nil_append, List.cons_append, leF, leH_nil, leH_cons, leF_nil, lk, scp, scpL, scpO, resF, resH, resO, resV, resVL, nth, Nat.reduceBEq, Nat.reduceLT, decide_true, decide_false, List.length, List.length_cons, List.length_nil, Nat.reduceAdd, Bool.and_self, Bool.and_true, and_true, true_and, numF] <;> try simp)) (by (simp only [setn, List.nil_append, List.cons_append, leF, leH_nil, leH_cons, leF_nil, lk, scp, scpL, scpO, resF, resH, resO, resV, resVL, nth, Nat.reduceBEq, Nat.reduceLT, decide_true, decide_false, List.length, List.length_cons, List.length_nil, Nat.reduceAdd, Bool.and_self, Bool.and_true, and_true, true_and, numF] <;> try simp))
     obtain ⟨rep3, ov⟩ := rep2.cut (H1 := [.own 30 0 1 A5 (rs ++ [(⟨cu, A, c⟩ : RB)]).length c5 (cellsB (rs ++ [⟨cu, A, c⟩]))]) rfl (rep2.le (s' := { F := [(0, .val (.slice B ps.length bc)), (3, .val (.slice A2 al.length c2)), (4, .own 0 0), (11, .val (.int .i64 (ps.length : Int))), (12, .val (.int .i64 ((rs ++ [(⟨cu, A, c⟩ : RB)]).length : Int)))], H := [.own 30 0 1 A5 (rs ++ [(⟨cu, A, c⟩ : RB)]).length c5 (cellsB (rs ++ [⟨cu, A, c⟩]))] }) (by (simp only [setn, List.nil_append, List.cons_append, leF, leH_nil, leH_cons, leF_nil, lk, scp, scpL, scpO, resF, resH, resO, resV, resVL, nth, Nat.reduceBEq, Nat.reduceLT, decide_true, decide_false, List.length, List.length_cons, List.length_nil, Nat.reduceAdd, Bool.and_self, Bool.and_true, and_true, true_and, numF] <;> try simp)) (by (simp only [setn, List.nil_append, List.cons_append, leF, leH_nil, leH_cons, leF_nil, lk, scp, scpL, scpO, resF, resH, resO, resV, resVL, nth, Nat.reduceBEq, Nat.reduceLT, decide_true, decide_false, List.length, List.length_cons, List.length_nil, Nat.reduceAdd, Bool.and_self, Bool.and_true, and_true, true_and, numF] <;> try simp))).frame
     have hrow := rep2.heap.rowOff (i := 0) rfl 44 []
     refine again (rs ++ [(⟨cu, A, c⟩ : RB)], A5, c5, W, W.heap.size, _) ⟨by simp; omega, fun i r hr => ?_, hov.trans ov, (hrb.over ov).snoc hrow⟩ (by simp; omega) a W rep3
     rcases Nat.lt_trichotomy i rs.length with h | h | h
     ·rw [List.getElem?_append_left h] at hr; exact hd i r hr
     ·subst h
      simp at hr; subst hr
      exact hdo
     ·rw [List.getElem?_eq_none (by simp; omega)] at hr; cases hr
  ·have hke : rs.length = ps.length := by have := of_decide_eq_false hge; omega
   exact ret_rule (vs := [.slice oA rs.length oC]) r35 rfl rfl fun W hW => hR _ _ ⟨oA, oC, rs, rfl, hke, hd, ownsB_low ((HeapOk.owns (b := W3) (N := W3.heap.size) (nt := 44) (mk := []) (hov.heap hW) (i := 0) rfl)) hw3.size, hrb.at hW, Fresh.tr hw3 (hov.heap hW).fresh'⟩
def DomR (nx : List (List Int)) (w : World) (v : Value) (w' : World) : Prop := ∃ (A : Option Addr) (c : Nat) (rs : List RB), v = .slice A rs.length c ∧ rs.length = nx.length ∧ (∀ i r, rs[i]? = some r → DomOk nx i r.os) ∧ World.ownsB w' w.heap.size 30 1 (.slice A rs.length c) rs.length (cellsB rs) ∧ RbAt w' rs ∧ Fresh w w'
theorem dominates19 (l : List In) (nx : List (List Int)) (hnx : nx = (partsL l).map Pa.nx) (B : Option Addr) (bc : Nat) (w : World) (hl : l.length ≤ 1024) (hB : RowAt w B (cellsI l)) (hG : ShAt w) :
  CallsV Tryz.prog 19 [.slice B l.length bc] w fun v w' => ∃ u, v = .tuple #[u, .int .i64 0] ∧ DomR nx w u w' := by
 refine calls_go (keep := K19) (nt := 10) (svs := [.val (.slice B l.length bc)]) Tryz.func19 x19 n19 (by simp) (by simp [IsL, Is]) fun R hR => ?_
 (refine Y_go 600 ?_; dsimp only [X19, numF, Nat.reduceAdd, zq9r, zq9q, Y_k, zq4u, zq8p, zq6u, YK, zq8t, zq6q, zq9i, normF, zq6n, Nat.reduceBEq, zq6l, zq6k, zq6m, zq86, zq87, zq9y, t19n2, T19n2, zq8o, zq55, zq0r, zq50, zq04, zq92, zq9b, zq0i, zq9g, zq9s, zq6h, zq8x, YC, t19n0, T19n0, zq89, zq9x, zq9p, t19n1, T19n1, zq9j])
 refine ⟨fun h => absurd (of_decide_eq_true h) (by omega), fun _ => ?_⟩
 refine call_base (vs := [.slice B l.length bc]) rfl (R := fun W v W' => PartsR l W v W') (fun W hW => parts33 l B bc W hl (hB.keep hW.fresh') (hG.keep hW.fresh')) (fun _ _ _ h => by obtain ⟨_, _, _, _, _, _, _, _, h⟩ := h; exact h) fun W v W' hW ⟨A, c, ps, hv, h1, h2, h3, h5, h4⟩ ov => ?_
 subst hv
 have hw1 : Fresh w W' := Fresh.tr hW.fresh' h4
 have hr : RowAt W' A (cellsR ps) := .of_own h2 rfl
 have hpl := partsR_len h1
 have hbn := bgL_len l
 have enx : nxs ps = nx := by rw [hnx, ← h1]; simp [nxs]
 have hnl : nx.length = ps.length := by rw [← enx]; simp [nxs]
 refine ⟨.val (.slice A ps.length c), by simp [Is], ?_⟩
 rw [show fps ([] : List SO) = [] from rfl]
 (refine Y_go 600 ?_; dsimp only [zq8t, zq9j])
 refine call_base (vs := [.slice A ps.length c]) rfl (R := fun W v W' => DomR nx W v W') (fun W hW => (dom35 ps A c W (by omega) (hr.keep hW.fresh') (h3.keep hW.fresh') (nxs_nn h1)).mono fun v W' ⟨A, c, rs, e1, e2, e3, e4, e5, e6⟩ => ⟨A, c, rs, e1, by rw [e2, hnl], enx ▸ e3, e4, e5, e6⟩) (fun _ _ _ h => by obtain ⟨_, _, _, _, _, _, _, _, h⟩ := h; exact h) fun W2 v W3 hW2 ⟨A2, c2, rs, hv, g1, g2, g3, g4, k3⟩ _ => ?_
 subst hv
 have hw2 : Fresh w W3 := Fresh.tr (Fresh.tr hw1 hW2.fresh') k3
 refine ⟨.val (.slice A2 rs.length c2), by simp [Is], ?_⟩
 rw [show fps ([] : List SO) = [] from rfl]
 (refine Y_go 600 ?_; dsimp only [zq8t, Y_k, zq4u, zq8o, zq6n, Nat.reduceBEq, zq6k, YK, zq8p, zq6q, zq9i, normF, zq6l, zq8a, zq87, zq9x])
 have hlow := ownsB_low g3 (Nat.le_trans hw1.size hW2.fresh'.size)
 exact ret_rule (vs := [_, _]) r19 rfl rfl fun W4 hW4 => hR _ _ ⟨_, rfl, A2, c2, rs, rfl, g1, g2, ownsB_keep hlow hW4.fresh', g4.keep hW4.fresh', Fresh.tr hw2 hW4.fresh'⟩
theorem law8 (l : List In) (B : Option Addr) (bc : Nat) (w : World) (hB : RowAt w B (cellsI l)) (hG : ShAt w) (hT : TabAt w) (hLb : LibAt w) :
  CallsV Tryz.prog 8 [.slice B l.length bc] w fun v w' => Fresh w w' ∧ v = .bool true := by
 refine calls_go (keep := K8) (nt := 152) (svs := [.val (.slice B l.length bc)]) Tryz.func8 x8 n8 (by simp) (by simp [IsL, Is]) fun R hR => ?_
 (refine Y_go 600 ?_; dsimp only [X8, numF, Nat.reduceAdd, zq9r, zq9q, Y_k, zq4u, zq8p, zq6p, YK, zq8t, zq9i, normF, zq6n, Nat.reduceBEq, zq6l, zq6k, zq6m, zq86, zq8a, zq87, zq9y, t8n27, T8n27, zq9j])
 refine call_val (vs := []) rfl (fun W hW => alive16 W (hG.keep hW.fresh') (hT.keep hW.fresh') (hLb.keep hW.fresh')) fun v hv => ⟨.bt, by rw [hv]; simp [Is], ?_⟩
 (refine Y_go 600 ?_; dsimp only [zq8t, Y_k, zq4u, zq8o, zq6n, Nat.reduceBEq, zq6k, YK, zq9i, normF, zq6l, zq6m, zq86, zq89, zq8a, zq87, zq9y, t8n26, T8n26, zq9r, zq9q, zq55, zq0r, zq50, zq8p, zq6q, zq04, zq92, zq9b, zq0i, zq9g, Y_gk, zq6e, YS, zq6a, zq4v, zq6o, zq0b, zq9s, zq6f, YC, t8n0, T8n0, zq9x, YR, zq6c, zq53, zq0m, zq0c, zq6g, zq9p, t8n25, T8n25, zq9j])
 have done0 : ∀ F H, denAll H F [2] = some [.bool true] → RetG (cxOf Tryz.prog Tryz.f8 K8 T8 R) ⟨w, w.heap.size, [], 152, []⟩ { F := F, H := H } := fun F H hd =>
  ret_rule (vs := [.bool true]) r8 rfl hd fun W hW => hR _ _ ⟨hW.fresh', rfl⟩
 refine ⟨fun _ => done0 _ _ rfl, fun h1 => ?_⟩
 clear done0
 have hl : l.length ≤ 80 := by have := of_decide_eq_false h1; omega
 obtain ⟨nx, hnx⟩ : ∃ nx, nx = (partsL l).map Pa.nx := ⟨_, rfl⟩
 have hnl : nx.length = (bgL l).length := by rw [hnx, List.length_map, partsL_len]
 have hbn := bgL_len l
 refine call_base (vs := [.slice B l.length bc]) rfl (R := fun W v W' => ∃ u, v = .tuple #[u, .int .i64 0] ∧ DomR nx W u W') (fun W hW => dominates19 l nx hnx B bc W (by omega) (hB.keep hW.fresh') (hG.keep hW.fresh')) (fun _ _ _ h => by obtain ⟨_, _, _, _, _, _, _, _, _, _, h⟩ := h; exact h) fun W2 v W3 hW2 ⟨u, hv, dA, dc, rs, hu, g1, g2, g3, g4, k4⟩ _ => ?_
 subst hv; subst hu
 have hw2 : Fresh w W3 := Fresh.tr hW2.fresh' k4
 have kd0 : RowAt W3 dA (cellsB rs) := .of_own g3 rfl
 refine ⟨.tup [.val (.slice dA rs.length dc), .val (.int .i64 0)], by simp [Is, IsL], ?_⟩
 rw [show fps ([] : List SO) = [] from rfl]
 (refine Y_go 600 ?_; dsimp only [zq8t, Y_k, zq4u, zq8o, zq6n, Nat.reduceBEq, zq6k, YK, zq5j, zq2f, nth, zq2e, zq6l, zq9i, normF, zq6m, zq86, zq8a, zq87, zq89, zq9y, t8n24, T8n24, zq9r, zq9q, zq9j])
 refine call_base (vs := [.slice B l.length bc]) rfl (R := fun W v W' => ∃ u, v = .tuple #[u, .int .i64 0] ∧ ReachR nx (-1) W u W') (fun W hW => reached18 l nx hnx B bc W (by omega) ((hB.keep hw2).keep hW.fresh') ((hG.keep hw2).keep hW.fresh')) (fun _ _ _ h => by obtain ⟨_, _, _, _, _, _, _, _, h⟩ := h; exact h) fun W4 v W5 hW4 ⟨u, hv, rA, rc, os, hu, j1, j2, j3⟩ _ => ?_
 subst hv; subst hu
 have hw5 : Fresh W3 W5 := Fresh.tr hW4.fresh' j3
 have hw : Fresh w W5 := Fresh.tr hw2 hw5
 have kd : RowAt W5 dA (cellsB rs) := kd0.keep hw5
 have kb : RbAt W5 rs := g4.keep hw5
 have kr : RowAt W5 rA (bsV os) := .of_own j2 rfl
 have hol : os.length = rs.length := by rw [j1.1, g1]
 clear g3 g4 k4 hW2 hW4 j2 j3 kd0 hw2 hw5
 refine ⟨.tup [.val (.slice rA os.length rc), .val (.int .i64 0)], by simp [Is, IsL], ?_⟩
 rw [show fps ([] : List SO) = [] from rfl]
 (refine Y_go 600 ?_; dsimp only [zq8t, Y_k, zq4u, zq8o, zq6n, Nat.reduceBEq, zq6k, YK, zq5j, zq2f, nth, zq2e, zq6l, zq9i, normF, zq6m, zq86, zq8a, zq87, zq89, zq9y, t8n23, T8n23, zq9r, zq9q, zq50, zq8p, zq6q, zq04, zq92, zq9b, zq0i, zq9d, Y_gk, zq6e, YS, zq6a, zq4v, zq6o, zq0b, zq9s, zq6f, YC, t8n1, T8n1, zq6p, zq9x, YR, zq6c, zq0c, zq55, zq0r, zq6h, zq8x, zq9p, t8n22, T8n22, zq9t, zq9v])
 have done : ∀ F H, denAll H F [2] = some [.bool true] → RetG (cxOf Tryz.prog Tryz.f8 K8 T8 R) ⟨W5, W5.heap.size, [], 152, []⟩ { F := F, H := H } := fun F H hd =>
  ret_rule (vs := [.bool true]) r8 rfl hd fun W hW => hR _ _ ⟨Fresh.tr hw hW.fresh', rfl⟩
 refine ⟨fun h => absurd h (by decide), fun _ => ⟨fun h => absurd h (by decide), fun _ => ⟨fun h => absurd h (by simp [hol]), fun _ => ?_⟩⟩⟩
 obtain ⟨n, hn⟩ : ∃ n, n = rs.length := ⟨_, rfl⟩
 have hd : ∃ db : Nat → Nat → Bool, (∀ i, i < n → ∃ (A : Option Addr) (c : Nat), CellAt ⟨W5, W5.heap.size, [], 152, []⟩ dA (i * 1) (.slice A n c) ∧ ∀ k, k < n → CellAt ⟨W5, W5.heap.size, [], 152, []⟩ A (k * 1) (.bool (db i k)) ∧ A.isSome = true) ∧ ∀ i k, i < n → k < n → (db i k = true ↔ Rch nx (-1) k ∧ ¬ Rch nx i k) := by
  refine ⟨fun i k => ((rs.getD i ⟨[], none, 0⟩).os).getD k false, fun i hi => ?_, fun i k hi hk => ?_⟩
  ·have h1 : rs[i]? = some rs[i] := List.getElem?_eq_getElem (by omega)
   have h2 := (g2 i _ h1).1
   have hg : rs.getD i ⟨[], none, 0⟩ = rs[i] := by rw [List.getD_eq_getElem?_getD, h1]; rfl
   have hln : (rs[i]).os.length = n := by rw [h2, ← g1, hn]
   refine ⟨(rs[i]).A, (rs[i]).c, kd.cell (by rw [Nat.mul_one, cellsB_get h1, hln]), fun k hk => ?_⟩
   have hk1 : (rs[i]).os[k]? = some (rs[i]).os[k] := List.getElem?_eq_getElem (by omega)
   have kk := kb _ (List.mem_of_getElem? h1)
   refine ⟨kk.cell (by simp only; rw [Nat.mul_one, hg, List.getD_eq_getElem?_getD, hk1]; exact bsV_get hk1), kk.isSome (j := k) (by rw [bsV_len]; omega)⟩
  ·have h1 : rs[i]? = some rs[i] := List.getElem?_eq_getElem (by omega)
   have h2 := g2 i _ h1
   have hg : rs.getD i ⟨[], none, 0⟩ = rs[i] := by rw [List.getD_eq_getElem?_getD, h1]; rfl
   have hln : (rs[i]).os.length = n := by rw [h2.1, ← g1, hn]
   have hk1 : (rs[i]).os[k]? = some (rs[i]).os[k] := List.getElem?_eq_getElem (by omega)
   show ((rs.getD i ⟨[], none, 0⟩).os).getD k false = true ↔ _
   rw [hg, List.getD_eq_getElem?_getD, hk1]
   exact h2.2 k _ hk1
 obtain ⟨db, hdc, hdb⟩ := hd
 have hr : ∃ rb : Nat → Bool, (∀ k, k < n → CellAt ⟨W5, W5.heap.size, [], 152, []⟩ rA (k * 1) (.bool (rb k)) ∧ rA.isSome = true) ∧ ∀ k, k < n → (rb k = true ↔ Rch nx (-1) k) := by
  refine ⟨fun k => os.getD k false, fun k hk => ?_, fun k hk => ?_⟩
  ·have h1 : os[k]? = some os[k] := List.getElem?_eq_getElem (by omega)
   exact ⟨kr.cell (by simp only; rw [Nat.mul_one, List.getD_eq_getElem?_getD, h1]; exact bsV_get h1), kr.isSome (j := k) (by rw [bsV_len]; omega)⟩
  ·have h1 : os[k]? = some os[k] := List.getElem?_eq_getElem (by omega)
   show os.getD k false = true ↔ _
   rw [List.getD_eq_getElem?_getD, h1]
   exact j1.2 k _ h1
 obtain ⟨rb, hrc, hrb⟩ := hr
 have hdA : ∀ i, i < n → dA.isSome = true := fun i hi => by obtain ⟨A, c, ⟨a, h, _⟩, _⟩ := hdc i hi; rw [h]; rfl
 have hn200 : n ≤ 100000 := by omega
 rw [hol, ← hn]
 clear kd kb kr g1 g2 j1 hol
 have low : ∀ a c, a < n → c < n → db a c = true → rb a = true := fun a c ha hc h => by
  obtain ⟨h1, h2⟩ := (hdb a c ha hc).1 h
  exact (hrb a ha).2 (h1.dom h2)
 have two : ∀ a b c, a < n → b < n → c < n → db a c = true → db b c = true → db a b = false → db b a = true := fun a b c ha hb hc h1 h2 h3 => by
  obtain ⟨p1, p2⟩ := (hdb a c ha hc).1 h1
  obtain ⟨q1, q2⟩ := (hdb b c hb hc).1 h2
  refine (hdb b a hb ha).2 ⟨p1.dom p2, fun hba => ?_⟩
  have hab : Rch nx a b := Classical.byContradiction fun hno => by
   have := (hdb a b ha hb).2 ⟨q1.dom q2, hno⟩
   rw [h3] at this; cases this
  rcases p1.two hab hba with h | h
  ·exact p2 h
  ·exact q2 h
 have fst : ∀ c, c < n → rb c = db 0 c := fun c hc => by
  rw [Bool.eq_iff_iff, hrb c hc, hdb 0 c (by omega) hc]
  exact ⟨fun h => ⟨h, fun h2 => h2.zero⟩, fun h => h.1⟩
 have dia : ∀ c, c < n → rb c = db c c := fun c hc => by
  rw [Bool.eq_iff_iff, hrb c hc, hdb c c hc hc]
  exact ⟨fun h => ⟨h, fun h2 => h2.ne rfl⟩, fun h => h.1⟩
 have F0 : True := trivial
 refine loop_go (α := Nat) (fun i => i ≤ n) (fun _ => ⟨W5, W5.heap.size, [], 152, []⟩) (fun i => { F := [(3, .bt), (4, .val (.slice dA n dc)), (6, .val (.slice rA n rc)), (8, .val (.int .i64 (i : Int)))], H := [] }) (fun i => n - i) (fun _ => rfl) ?start ?round
 case start =>
  intro a W rep
  exact ⟨0, Nat.zero_le _, rep.le (by (simp only [setn, List.nil_append, List.cons_append, leF, leH_nil, leH_cons, leF_nil, lk, scp, scpL, scpO, resF, resH, resO, resV, resVL, nth, Nat.reduceBEq, Nat.reduceLT, decide_true, decide_false, List.length, List.length_cons, List.length_nil, Nat.reduceAdd, Bool.and_self, Bool.and_true, and_true, true_and, numF] <;> try simp)) (by (simp only [setn, List.nil_append, List.cons_append, leF, leH_nil, leH_cons, leF_nil, lk, scp, scpL, scpO, resF, resH, resO, resV, resVL, nth, Nat.reduceBEq, Nat.reduceLT, decide_true, decide_false, List.length, List.length_cons, List.length_nil, Nat.reduceAdd, Bool.and_self, Bool.and_true, and_true, true_and, numF] <;> try simp))⟩
 case round =>
  intro i hi I again
  have hi : i ≤ n := hi
  have hi1 : ((i : Nat) : Int).toNat = i := by omega
  (refine Y_go 600 ?_; dsimp only [zq9y, t8n5, T8n5, zq9r, zq9q, Y_k, zq4u, zq8o, zq6n, Nat.reduceBEq, zq6l, zq6k, YK, zq8t, zq55, zq0r, zq50, zq04, zq92, zq9b, zq0i, zq9e, zq9i, normF, zq6m, zq86, zq87, zq89, zq9s, zq6h, zq8x, YC, zq9p, t8n4, T8n4, zq9t, zq58, zq06, zq0w, zq5c, zq1p, zq1g, List.nil_append, zq1b, zq18, zq9d, t8n2, T8n2, zq8p, zq6p, zq8a, zq9x, zqa1, t8n3, T8n3, zq4w, zq6q, zq0e, zqa2, zq9u, popTo, zq6i, YP, t8n21, T8n21, zq9v])
  refine ⟨fun hlt => ?_, fun hge => ?_⟩
  ·have hlt : i < n := by have := of_decide_eq_true hlt; omega
   obtain ⟨A, c, q1, _⟩ := hdc i hlt
   rw [hi1]
   exact ⟨⟨by omega, by omega, hdA i hlt⟩, _, _, _, q1, fun h => absurd h (by simp), fun _ => ⟨((i + 1 : Nat) : Int), ArOk.to (by omega) (by omega) (by omega), lend_rule fun a W rep => again (i + 1) (by show i + 1 ≤ _; omega) (by show _ - (i + 1) < _ - i; omega) a W (rep.le (by (simp only [setn, List.nil_append, List.cons_append, leF, leH_nil, leH_cons, leF_nil, lk, scp, scpL, scpO, resF, resH, resO, resV, resVL, nth, Nat.reduceBEq, Nat.reduceLT, decide_true, decide_false, List.length, List.length_cons, List.length_nil, Nat.reduceAdd, Bool.and_self, Bool.and_true, and_true, true_and, numF] <;> try simp)) (by (simp only [setn, List.nil_append, List.cons_append, leF, leH_nil, leH_cons, leF_nil, lk, scp, scpL, scpO, resF, resH, resO, resV, resVL, nth, Nat.reduceBEq, Nat.reduceLT, decide_true, decide_false, List.length, List.length_cons, List.length_nil, Nat.reduceAdd, Bool.and_self, Bool.and_true, and_true, true_and, numF] <;> try simp)))⟩⟩
  refine loop_go (α := Nat) (fun c => c ≤ n) (fun _ => ⟨W5, W5.heap.size, [], 152, []⟩) (fun c => { F := [(3, .bt), (4, .val (.slice dA n dc)), (6, .val (.slice rA n rc)), (9, .val (.int .i64 (c : Int)))], H := [] }) (fun c => n - c) (fun _ => rfl) ?start2 ?round2
  case start2 =>
   intro a W rep
   exact ⟨0, Nat.zero_le _, rep.le (by (simp only [setn, List.nil_append, List.cons_append, leF, leH_nil, leH_cons, leF_nil, lk, scp, scpL, scpO, resF, resH, resO, resV, resVL, nth, Nat.reduceBEq, Nat.reduceLT, decide_true, decide_false, List.length, List.length_cons, List.length_nil, Nat.reduceAdd, Bool.and_self, Bool.and_true, and_true, true_and, numF] <;> try simp)) (by (simp only [setn, List.nil_append, List.cons_append, leF, leH_nil, leH_cons, leF_nil, lk, scp, scpL, scpO, resF, resH, resO, resV, resVL, nth, Nat.reduceBEq, Nat.reduceLT, decide_true, decide_false, List.length, List.length_cons, List.length_nil, Nat.reduceAdd, Bool.and_self, Bool.and_true, and_true, true_and, numF] <;> try simp))⟩
  case round2 =>
   clear again hge
   intro c hc I again
   have hc : c ≤ n := hc
   have hc1 : ((c : Nat) : Int).toNat = c := by omega
   (refine Y_go 600 ?_; dsimp only [zq9y, t8n19, T8n19, zq9r, zq9q, Y_k, zq4u, zq8o, zq6n, Nat.reduceBEq, zq6l, zq6k, YK, zq8t, zq55, zq0r, zq50, zq04, zq92, zq9b, zq0i, zq9e, zq9i, normF, zq6m, zq86, zq87, zq89, zq9s, zq6h, zq8x, YC, zq9p, t8n18, T8n18, zq9t, zq58, zq06, zq0w, zq5c, zq1p, zq1d, List.nil_append, zq1b, zq18, zq8p, zq6q, Int.reduceToNat, Nat.reduceMul, zq1g, Nat.reduceAdd, zq51, zq8w, zq0j, Y_gk, zq6e, YS, zq6a, zq4v, zq6o, zq0b, zq6f, t8n6, T8n6, zq6p, zq8a, zq9x, YR, zq6c, zq0c, t8n16, T8n16, zq9v, zq9u, popTo, zq6i, YP, t8n20, T8n20])
   refine ⟨fun hlt => ?_, fun hge => done _ _ rfl⟩
   have hlt : c < n := by have := of_decide_eq_true hlt; omega
   have hpos : 0 < n := by omega
   have rd : ∀ i k, i < n → k < n → ∃ (A : Option Addr) (c : Nat), CellAt ⟨W5, W5.heap.size, [], 152, []⟩ dA (i * 1) (.slice A n c) ∧ CellAt ⟨W5, W5.heap.size, [], 152, []⟩ A (k * 1) (.bool (db i k)) ∧ A.isSome = true := fun i k hi hk => by
    obtain ⟨A, c, q1, q2⟩ := hdc i hi
    exact ⟨A, c, q1, (q2 k hk).1, (q2 k hk).2⟩
   have sd := hdA 0 hpos
   obtain ⟨A0, c0, a1, a2, a3⟩ := rd 0 c hpos hlt
   obtain ⟨Ac, cc, b1, b2, b3⟩ := rd c c hlt hlt
   obtain ⟨rc1, sr⟩ := hrc c hlt
   have bc1 : ∀ {s : Prop}, s → (0 : Int) ≤ (c : Int) ∧ (c : Int) < (n : Int) ∧ s := fun h => ⟨by omega, by omega, h⟩
   rw [hc1]
   refine ⟨bc1 sr, _, rc1, ⟨by omega, by omega, sd⟩, A0, n, c0, a1, bc1 a3, _, a2, fun h => absurd h (by rw [fst c hlt]; simp), fun _ => ⟨bc1 sr, _, rc1, bc1 sd, Ac, n, cc, b1, bc1 b3, _, b2, fun h => absurd h (by rw [dia c hlt]; simp), fun _ => ?_⟩⟩
   refine loop_go (α := Nat) (fun a => a ≤ n) (fun _ => ⟨W5, W5.heap.size, [], 152, []⟩) (fun a => { F := [(3, .bt), (4, .val (.slice dA n dc)), (6, .val (.slice rA n rc)), (9, .val (.int .i64 (c : Int))), (10, .val (.int .i64 (a : Int)))], H := [] }) (fun a => n - a) (fun _ => rfl) ?start3 ?round3
   case start3 =>
    intro a W rep
    exact ⟨0, Nat.zero_le _, rep.le (by (simp only [setn, List.nil_append, List.cons_append, leF, leH_nil, leH_cons, leF_nil, lk, scp, scpL, scpO, resF, resH, resO, resV, resVL, nth, Nat.reduceBEq, Nat.reduceLT, decide_true, decide_false, List.length, List.length_cons, List.length_nil, Nat.reduceAdd, Bool.and_self, Bool.and_true, and_true, true_and, numF] <;> try simp)) (by (simp only [setn, List.nil_append, List.cons_append, leF, leH_nil, leH_cons, leF_nil, lk, scp, scpL, scpO, resF, resH, resO, resV, resVL, nth, Nat.reduceBEq, Nat.reduceLT, decide_true, decide_false, List.length, List.length_cons, List.length_nil, Nat.reduceAdd, Bool.and_self, Bool.and_true, and_true, true_and, numF] <;> try simp))⟩
   case round3 =>
    intro a ha I3 again3
    have ha : a ≤ n := ha
    have ha1 : ((a : Nat) : Int).toNat = a := by omega
    (refine Y_go 600 ?_; dsimp only [zq9y, t8n15, T8n15, zq9r, zq9q, Y_k, zq4u, zq8o, zq6n, Nat.reduceBEq, zq6l, zq6k, YK, zq8t, zq55, zq0r, zq50, zq04, zq92, zq9b, zq0i, zq9e, zq9i, normF, zq6m, zq86, zq87, zq89, zq9s, zq6h, zq8x, YC, zq9p, t8n14, T8n14, zq9t, zq58, zq06, zq0w, zq5c, zq1p, zq1g, List.nil_append, zq1b, zq18, zq1d, Y_gk, zq6d, YR, zq69, zq53, zq0o, zq4v, zq8p, zq6p, zq0b, t8n7, T8n7, zq8a, zq9x, t8n12, T8n12, zq6q, zq9v, YS, zq6b, zq0c, zq6g, zq9u, popTo, zq6i, YP, zqa1, t8n17, T8n17, zq4w, zq0e, zqa2])
    refine ⟨fun hlta => ?_, fun _ => ⟨((c + 1 : Nat) : Int), ArOk.to (by omega) (by omega) (by omega), lend_rule fun a' W rep => again (c + 1) (by show c + 1 ≤ _; omega) (by show _ - (c + 1) < _ - c; omega) a' W (rep.le (by (simp only [setn, List.nil_append, List.cons_append, leF, leH_nil, leH_cons, leF_nil, lk, scp, scpL, scpO, resF, resH, resO, resV, resVL, nth, Nat.reduceBEq, Nat.reduceLT, decide_true, decide_false, List.length, List.length_cons, List.length_nil, Nat.reduceAdd, Bool.and_self, Bool.and_true, and_true, true_and, numF] <;> try simp)) (by (simp only [setn, List.nil_append, List.cons_append, leF, leH_nil, leH_cons, leF_nil, lk, scp, scpL, scpO, resF, resH, resO, resV, resVL, nth, Nat.reduceBEq, Nat.reduceLT, decide_true, decide_false, List.length, List.length_cons, List.length_nil, Nat.reduceAdd, Bool.and_self, Bool.and_true, and_true, true_and, numF] <;> try simp)))⟩⟩
    have hlta : a < n := by have := of_decide_eq_true hlta; omega
    have ba1 : ∀ {s : Prop}, s → (0 : Int) ≤ (a : Int) ∧ (a : Int) < (n : Int) ∧ s := fun h => ⟨by omega, by omega, h⟩
    obtain ⟨Aa, ca, d1, d2, d3⟩ := rd a c hlta hlt
    obtain ⟨ra1, _⟩ := hrc a hlta
    have hlow := low a c hlta hlt
    rw [ha1, hc1]
    have inner : ∀ F, leF 0 F [(3, .bt), (4, .val (.slice dA n dc)), (6, .val (.slice rA n rc)), (9, .val (.int .i64 (c : Int))), (10, .val (.int .i64 (a : Int))), (11, .val (.int .i64 0))] → G (cxOf Tryz.prog Tryz.f8 K8 T8 R) ⟨W5, W5.heap.size, [], 152, []⟩ [.code (XC.ref 11).loop, .blk 6, .blk 5, .code (.ref 13), .lend I3, .blk 4, .blk 3, .code (.ref 17), .lend I, .blk 2, .code (.ref 20)] { F := F, H := [] } := by
     intro F hF
     refine loop_go (α := Nat) (fun b => b ≤ n) (fun _ => ⟨W5, W5.heap.size, [], 152, []⟩) (fun b => { F := [(3, .bt), (4, .val (.slice dA n dc)), (6, .val (.slice rA n rc)), (9, .val (.int .i64 (c : Int))), (10, .val (.int .i64 (a : Int))), (11, .val (.int .i64 (b : Int)))], H := [] }) (fun b => n - b) (fun _ => rfl) ?start4 ?round4
     case start4 =>
      intro a W rep
      exact ⟨0, Nat.zero_le _, rep.le hF (by (simp only [setn, List.nil_append, List.cons_append, leF, leH_nil, leH_cons, leF_nil, lk, scp, scpL, scpO, resF, resH, resO, resV, resVL, nth, Nat.reduceBEq, Nat.reduceLT, decide_true, decide_false, List.length, List.length_cons, List.length_nil, Nat.reduceAdd, Bool.and_self, Bool.and_true, and_true, true_and, numF] <;> try simp))⟩
     case round4 =>
      intro b hb I4 again4
      have hb : b ≤ n := hb
      have hb1 : ((b : Nat) : Int).toNat = b := by omega
      (refine Y_go 600 ?_; dsimp only [zq9y, t8n11, T8n11, zq9r, zq9q, Y_k, zq4u, zq8o, zq6n, Nat.reduceBEq, zq6l, zq6k, YK, zq8t, zq55, zq0r, zq50, zq04, zq92, zq9b, zq0i, zq9e, zq9i, normF, zq6m, zq86, zq87, zq89, zq9s, zq6h, zq8x, YC, zq9p, t8n10, T8n10, zq9t, zq58, zq06, zq0w, zq5c, zq1p, zq1g, List.nil_append, zq1b, zq18, zq1d, Y_gk, zq6d, YR, zq69, zq4v, zq8p, zq6p, zq0b, zq53, zq0o, t8n8, T8n8, zq8a, zq9x, zqa1, t8n9, T8n9, zq4w, zq6q, zq0e, zqa2, YS, zq6b, zq0c, zq6g, zq9u, popTo, zq6i, YP, t8n13, T8n13])
      refine ⟨fun hltb => ?_, fun _ => ⟨((a + 1 : Nat) : Int), ArOk.to (by omega) (by omega) (by omega), lend_rule fun a' W rep => again3 (a + 1) (by show a + 1 ≤ _; omega) (by show _ - (a + 1) < _ - a; omega) a' W (rep.le (by (simp only [setn, List.nil_append, List.cons_append, leF, leH_nil, leH_cons, leF_nil, lk, scp, scpL, scpO, resF, resH, resO, resV, resVL, nth, Nat.reduceBEq, Nat.reduceLT, decide_true, decide_false, List.length, List.length_cons, List.length_nil, Nat.reduceAdd, Bool.and_self, Bool.and_true, and_true, true_and, numF] <;> try simp)) (by (simp only [setn, List.nil_append, List.cons_append, leF, leH_nil, leH_cons, leF_nil, lk, scp, scpL, scpO, resF, resH, resO, resV, resVL, nth, Nat.reduceBEq, Nat.reduceLT, decide_true, decide_false, List.length, List.length_cons, List.length_nil, Nat.reduceAdd, Bool.and_self, Bool.and_true, and_true, true_and, numF] <;> try simp)))⟩⟩
      have hltb : b < n := by have := of_decide_eq_true hltb; omega
      have bb1 : ∀ {s : Prop}, s → (0 : Int) ≤ (b : Int) ∧ (b : Int) < (n : Int) ∧ s := fun h => ⟨by omega, by omega, h⟩
      obtain ⟨Ab, cb, e1, e2, e3⟩ := rd b c hltb hlt
      obtain ⟨Aab, cab, f1, f2, f3⟩ := rd a b hlta hltb
      obtain ⟨Aba, cba, g1, g2, g3⟩ := rd b a hltb hlta
      have h2 := two a b c hlta hltb hlt
      rw [ha1, hb1, hc1]
      have b64 : ArOk .add .i64 (b : Int) 1 ((b + 1 : Nat) : Int) := ArOk.to (by omega) (by omega) (by omega)
      have go : ∀ a' W (F : List (Nat × SV)), leF 0 F [(3, .bt), (4, .val (.slice dA n dc)), (6, .val (.slice rA n rc)), (9, .val (.int .i64 (c : Int))), (10, .val (.int .i64 (a : Int))), (11, .val (.int .i64 ((b + 1 : Nat) : Int)))] → Rep ⟨W5, W5.heap.size, [], 152, []⟩ { F := F, H := [] } a' W → I4 a' W := fun a' W F hF rep => again4 (b + 1) (by show b + 1 ≤ _; omega) (by show _ - (b + 1) < _ - b; omega) a' W (rep.le hF (by (simp only [setn, List.nil_append, List.cons_append, leF, leH_nil, leH_cons, leF_nil, lk, scp, scpL, scpO, resF, resH, resO, resV, resVL, nth, Nat.reduceBEq, Nat.reduceLT, decide_true, decide_false, List.length, List.length_cons, List.length_nil, Nat.reduceAdd, Bool.and_self, Bool.and_true, and_true, true_and, numF] <;> try simp)))
      refine ⟨ba1 sd, Aa, n, ca, d1, bc1 d3, _, d2, fun h1 => ⟨bb1 sd, Ab, n, cb, e1, bc1 e3, _, e2, fun h3 => ⟨ba1 sd, Aab, n, cab, f1, bb1 f3, _, f2, fun h4 => ?_, fun h4 => ⟨_, b64, lend_rule fun a' W rep => go a' W _ (by (simp only [setn, List.nil_append, List.cons_append, leF, leH_nil, leH_cons, leF_nil, lk, scp, scpL, scpO, resF, resH, resO, resV, resVL, nth, Nat.reduceBEq, Nat.reduceLT, decide_true, decide_false, List.length, List.length_cons, List.length_nil, Nat.reduceAdd, Bool.and_self, Bool.and_true, and_true, true_and, numF] <;> try simp)) rep⟩⟩, fun h3 => ⟨_, b64, lend_rule fun a' W rep => go a' W _ (by (simp only [setn, List.nil_append, List.cons_append, leF, leH_nil, leH_cons, leF_nil, lk, scp, scpL, scpO, resF, resH, resO, resV, resVL, nth, Nat.reduceBEq, Nat.reduceLT, decide_true, decide_false, List.length, List.length_cons, List.length_nil, Nat.reduceAdd, Bool.and_self, Bool.and_true, and_true, true_and, numF] <;> try simp)) rep⟩⟩, fun h1 => ⟨_, b64, lend_rule fun a' W rep => go a' W _ (by (simp only [setn, List.nil_append, List.cons_append, leF, leH_nil, leH_cons, leF_nil, lk, scp, scpL, scpO, resF, resH, resO, resV, resVL, nth, Nat.reduceBEq, Nat.reduceLT, decide_true, decide_false, List.length, List.length_cons, List.length_nil, Nat.reduceAdd, Bool.and_self, Bool.and_true, and_true, true_and, numF] <;> try simp)) rep⟩⟩
      have h5 := h2 h1 h3 (by simpa using h4)
      exact ⟨bb1 sd, Aba, n, cba, g1, ba1 g3, _, g2, fun h => absurd h (by simp [h5]), fun _ => ⟨_, b64, lend_rule fun a' W rep => go a' W _ (by (simp only [setn, List.nil_append, List.cons_append, leF, leH_nil, leH_cons, leF_nil, lk, scp, scpL, scpO, resF, resH, resO, resV, resVL, nth, Nat.reduceBEq, Nat.reduceLT, decide_true, decide_false, List.length, List.length_cons, List.length_nil, Nat.reduceAdd, Bool.and_self, Bool.and_true, and_true, true_and, numF] <;> try simp)) rep⟩⟩
    exact ⟨ba1 sd, Aa, n, ca, d1, bc1 d3, _, d2, fun ht => ⟨ba1 sr, _, ra1, fun h => absurd h (by simp [hlow ht]), fun _ => inner _ (by (simp only [setn, List.nil_append, List.cons_append, leF, leH_nil, leH_cons, leF_nil, lk, scp, scpL, scpO, resF, resH, resO, resV, resVL, nth, Nat.reduceBEq, Nat.reduceLT, decide_true, decide_false, List.length, List.length_cons, List.length_nil, Nat.reduceAdd, Bool.and_self, Bool.and_true, and_true, true_and, numF] <;> try simp))⟩, fun _ => inner _ (by (simp only [setn, List.nil_append, List.cons_append, leF, leH_nil, leH_cons, leF_nil, lk, scp, scpL, scpO, resF, resH, resO, resV, resVL, nth, Nat.reduceBEq, Nat.reduceLT, decide_true, decide_false, List.length, List.length_cons, List.length_nil, Nat.reduceAdd, Bool.and_self, Bool.and_true, and_true, true_and, numF] <;> try simp))⟩
end Go.Proofs.YtlbiogokpadaoaaGreatDoor
