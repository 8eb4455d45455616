/- FlowCovers: the statement, walked. -/
import Derived.Test.YtlbiogokpadaoaaGreatDoorFlSteps
import Derived.Test.YtlbiogokpadaoaaGreatDoorFlCode
import Derived.Test.YtlbiogokpadaoaaGreatDoorFlCode2
set_option linter.unusedSimpArgs false
set_option linter.unusedVariables false
set_option linter.unnecessarySimpa false
namespace Go.Proofs.YtlbiogokpadaoaaGreatDoor
open Go Go.Sx Go.Isa Go.Asm
set_option maxRecDepth 100000
theorem nxs_parts {l : List In} {ps : List PR} (h : ps.map PR.pa = partsL l) {i : Nat} {p : PR} (hp : ps[i]? = some p) : p.pa = partL l (bgL l) i := by
 have h2 := congrArg (fun z => z[i]?) h
 simp only [List.getElem?_map, hp, Option.map_some] at h2
 have hi : i < ps.length := (List.getElem?_eq_some_iff.1 hp).1
 rw [partsL_get (by rw [← partsR_len h]; exact hi)] at h2
 injection h2
theorem nxs_nn {l : List In} {ps : List PR} (h : ps.map PR.pa = partsL l) : ∀ s ∈ nxs ps, s.length ≤ 2 ∧ ∀ j ∈ s, (0 : Int) ≤ j := by
 intro s hs
 unfold nxs at hs
 obtain ⟨p, hp, rfl⟩ := List.mem_map.1 hs
 obtain ⟨i, hi⟩ := List.getElem?_of_mem hp
 have e := nxs_parts h hi
 have hlt : i < (bgL l).length := by rw [← partsR_len h]; exact (List.getElem?_eq_some_iff.1 hi).1
 have hb : (bgL l)[i]? = some (bgL l)[i] := List.getElem?_eq_getElem hlt
 rw [e]
 exact ⟨nxL_len _ _ _, fun j hj => (nxL_range hb hj).1⟩
def ReachR (nx : List (List Int)) (wo : Int) (w : World) (v : Value) (w' : World) : Prop := ∃ (A : Option Addr) (c : Nat) (os : List Bool), v = .slice A os.length c ∧ ReachOk nx wo os ∧ World.ownsB w' w.heap.size 4 1 (.slice A os.length c) os.length (bsV os) ∧ Fresh w w'
theorem reached18 (l : List In) (nx : List (List Int)) (hnx : nx = (partsL l).map Pa.nx) (B : Option Addr) (bc : Nat) (w : World) (hl : l.length ≤ 1024) (hB : RowAt w B (cellsI l)) (hG : ShAt w) :
  CallsV Tryz.prog 18 [.slice B l.length bc] w fun v w' => ∃ u, v = .tuple #[u, .int .i64 0] ∧ ReachR nx (-1) w u w' := by
 refine calls_go (keep := K18) (nt := 10) (svs := [.val (.slice B l.length bc)]) Tryz.func18 x18 n18 (by simp) (by simp [IsL, Is]) fun R hR => ?_
 (refine Y_go 600 ?_; dsimp only [X18, numF, Nat.reduceAdd, zq9r, zq9q, Y_k, zq4u, zq8p, zq6u, YK, zq8t, zq6q, zq9i, normF, zq6n, Nat.reduceBEq, zq6l, zq6k, zq6m, zq86, zq87, zq9y, t18n2, T18n2, zq8o, zq55, zq0r, zq50, zq04, zq92, zq9b, zq0i, zq9g, zq9s, zq6h, zq8x, YC, t18n0, T18n0, zq89, zq9x, zq9p, t18n1, T18n1, zq9j])
 refine ⟨fun h => absurd (of_decide_eq_true h) (by omega), fun _ => ?_⟩
 refine call_base (vs := [.slice B l.length bc]) rfl (R := fun W v W' => PartsR l W v W') (fun W hW => parts33 l B bc W hl (hB.keep hW.fresh') (hG.keep hW.fresh')) (fun _ _ _ h => by obtain ⟨_, _, _, _, _, _, _, _, h⟩ := h; exact h) fun W v W' hW ⟨A, c, ps, hv, h1, h2, h3, h5, h4⟩ ov => ?_
 subst hv
 have hw1 : Fresh w W' := Fresh.tr hW.fresh' h4
 have hr : RowAt W' A (cellsR ps) := .of_own h2 rfl
 have hpl := partsR_len h1
 have hbn := bgL_len l
 have enx : nxs ps = nx := by rw [hnx, ← h1]; simp [nxs]
 refine ⟨.val (.slice A ps.length c), by simp [Is], ?_⟩
 rw [show fps ([] : List SO) = [] from rfl]
 (refine Y_go 600 ?_; dsimp only [zq8t, zq9j])
 refine call_base (vs := [.slice A ps.length c, .int .i64 (-1)]) rfl (R := fun W v W' => ReachR nx (-1) W v W') (fun W hW => enx ▸ reach34 ps (-1) A c W (by omega) (hr.keep hW.fresh') (h3.keep hW.fresh') (nxs_nn h1)) (fun _ _ _ h => by obtain ⟨_, _, _, _, _, _, h⟩ := h; exact h) fun W2 v W3 hW2 ⟨A2, c2, os, hv, k1, k2, k3⟩ _ => ?_
 subst hv
 have hw2 : Fresh w W3 := Fresh.tr (Fresh.tr hw1 hW2.fresh') k3
 refine ⟨.val (.slice A2 os.length c2), by simp [Is], ?_⟩
 rw [show fps ([] : List SO) = [] from rfl]
 (refine Y_go 600 ?_; dsimp only [zq8t, Y_k, zq4u, zq8o, zq6n, Nat.reduceBEq, zq6k, YK, zq8p, zq6q, zq9i, normF, zq6l, zq8a, zq87, zq9x])
 have hlow := ownsB_low k2 (Nat.le_trans hw1.size hW2.fresh'.size)
 exact ret_rule (vs := [_, _]) r18 rfl rfl fun W4 hW4 => hR _ _ ⟨_, rfl, A2, c2, os, rfl, k1, ownsB_keep hlow hW4.fresh', Fresh.tr hw2 hW4.fresh'⟩
structure BhOk (nx : List (List Int)) (os : List Bool) (i k : Nat) (bh : List Bool) : Prop where
 len : bh.length = nx.length
 iff : ∀ j : Nat, j < nx.length → (bh[j]? = some true ↔ ∃ (i' : Nat) (s : List Int), nx[i']? = some s ∧ os[i']? = some true ∧ ((i' < i ∧ (j : Int) ∈ s) ∨ (i' = i ∧ (j : Int) ∈ s.take k)))
theorem BhOk.start (nx : List (List Int)) (os : List Bool) : BhOk nx os 0 0 (List.replicate nx.length false) := ⟨by simp, fun j hj => by
 rw [List.getElem?_replicate, if_pos hj]
 constructor
 ·intro h; simp at h
 ·rintro ⟨i', s, _, _, ⟨h, _⟩ | ⟨_, h⟩⟩
  ·omega
  ·simp at h⟩
theorem BhOk.next {nx : List (List Int)} {os : List Bool} {i : Nat} {s : List Int} {bh : List Bool} (h : BhOk nx os i s.length bh) (hs : nx[i]? = some s) : BhOk nx os (i + 1) 0 bh := ⟨h.len, fun j hj => by
 rw [h.iff j hj]
 constructor
 ·rintro ⟨i', s', h1, h2, ⟨h3, h4⟩ | ⟨h3, h4⟩⟩
  ·exact ⟨i', s', h1, h2, .inl ⟨by omega, h4⟩⟩
  ·subst h3
   rw [hs] at h1; injection h1 with h1; subst h1
   rw [List.take_length] at h4
   exact ⟨i', s, hs, h2, .inl ⟨by omega, h4⟩⟩
 ·rintro ⟨i', s', h1, h2, ⟨h3, h4⟩ | ⟨h3, h4⟩⟩
  ·by_cases e : i' = i
   ·subst e
    rw [hs] at h1; injection h1 with h1; subst h1
    exact ⟨i', s, hs, h2, .inr ⟨rfl, by rw [List.take_length]; exact h4⟩⟩
   ·exact ⟨i', s', h1, h2, .inl ⟨by omega, h4⟩⟩
  ·simp at h4⟩
theorem BhOk.one {nx : List (List Int)} {os : List Bool} {i k : Nat} {s : List Int} {bh : List Bool} {m : Nat} {r b : Bool} (h : BhOk nx os i k bh) (hs : nx[i]? = some s) (hm : s[k]? = some (m : Int)) (hml : m < nx.length) (hr : os[i]? = some r) (hb : bh[m]? = some b) : BhOk nx os i (k + 1) (bh.set m (b || r)) := ⟨by rw [List.length_set]; exact h.len, fun j hj => by
 have hbl : m < bh.length := by rw [h.len]; exact hml
 have key : (bh.set m (b || r))[j]? = some true ↔ bh[j]? = some true ∨ (m = j ∧ r = true) := by
  rw [List.getElem?_set]
  by_cases e : m = j
  ·subst e
   rw [if_pos rfl, if_pos hbl, hb]
   cases b <;> cases r <;> simp
  ·rw [if_neg e]; simp [e]
 rw [key, h.iff j hj]
 constructor
 ·rintro (⟨i', s', h1, h2, h3 | ⟨h3, h4⟩⟩ | ⟨h1, h2⟩)
  ·exact ⟨i', s', h1, h2, .inl h3⟩
  ·subst h3
   rw [hs] at h1; injection h1 with h1; subst h1
   exact ⟨i', s, hs, h2, .inr ⟨rfl, by rw [takeI_snoc hm]; simp [h4]⟩⟩
  ·subst h1; subst h2
   exact ⟨i, s, hs, hr, .inr ⟨rfl, by rw [takeI_snoc hm]; simp⟩⟩
 ·rintro ⟨i', s', h1, h2, h3 | ⟨h3, h4⟩⟩
  ·exact .inl ⟨i', s', h1, h2, .inl h3⟩
  ·subst h3
   rw [hs] at h1; injection h1 with h1; subst h1
   rw [takeI_snoc hm, List.mem_append, List.mem_singleton] at h4
   rcases h4 with h4 | h4
   ·exact .inl ⟨i', s, hs, h2, .inr ⟨rfl, h4⟩⟩
   ·rw [hr] at h2; injection h2 with h2
    exact .inr ⟨by omega, h2⟩⟩
theorem BhOk.fin {nx : List (List Int)} {os bh : List Bool} (h : BhOk nx os nx.length 0 bh) (hr : ReachOk nx (-1) os) {i : Nat} {r b : Bool} (hi : os[i]? = some r) (hb : bh[i]? = some b) : r = (decide (i = 0) || b) := by
 have hil : i < nx.length := by rw [← hr.1]; exact (List.getElem?_eq_some_iff.1 hi).1
 have h1 := hr.2 i r hi
 have h2 := h.iff i hil
 rw [hb, Option.some.injEq] at h2
 rw [Bool.eq_iff_iff, h1]
 simp only [Bool.or_eq_true, decide_eq_true_eq]
 rw [h2]
 constructor
 ·intro hr2
  cases hr2 with
  | base _ _ => exact .inl rfl
  | @step i' j s hi' hs hj hl hne =>
   refine .inr ⟨i', s, hs, ?_, .inl ⟨hi'.lt, hj⟩⟩
   have hlt : i' < os.length := by rw [hr.1]; exact hi'.lt
   have he : os[i']? = some os[i'] := List.getElem?_eq_getElem hlt
   rw [he, (hr.2 i' _ he).2 hi']
 ·rintro (h | ⟨i', s, hs, ho, ⟨_, hj⟩ | ⟨_, hj⟩⟩)
  ·subst h; exact .base hil (by omega)
  ·exact .step ((hr.2 i' true ho).1 rfl) hs hj hil (by omega)
  ·simp at hj
theorem law7 (l : List In) (B : Option Addr) (bc : Nat) (w : World) (hB : RowAt w B (cellsI l)) (hG : ShAt w) (hT : TabAt w) (hLb : LibAt w) :
  CallsV Tryz.prog 7 [.slice B l.length bc] w fun v w' => Fresh w w' ∧ v = .bool true := by
 refine calls_go (keep := K7) (nt := 154) (svs := [.val (.slice B l.length bc)]) Tryz.func7 x7 n7 (by simp) (by simp [IsL, Is]) fun R hR => ?_
 (refine Y_go 600 ?_; dsimp only [X7, numF, Nat.reduceAdd, zq9r, zq9q, Y_k, zq4u, zq8p, zq6p, YK, zq8t, zq9i, normF, zq6n, Nat.reduceBEq, zq6l, zq6k, zq6m, zq86, zq8a, zq87, zq9y, t7n27, T7n27, zq9j])
 refine call_val (vs := []) rfl (fun W hW => alive16 W (hG.keep hW.fresh') (hT.keep hW.fresh') (hLb.keep hW.fresh')) fun v hv => ⟨.bt, by rw [hv]; simp [Is], ?_⟩
 (refine Y_go 600 ?_; dsimp only [zq8t, Y_k, zq4u, zq8o, zq6n, Nat.reduceBEq, zq6k, YK, zq9i, normF, zq6l, zq6m, zq86, zq89, zq8a, zq87, zq9y, t7n26, T7n26, zq9r, zq9q, zq55, zq0r, zq50, zq8p, zq6q, zq04, zq92, zq9b, zq0i, zq9g, Y_gk, zq6e, YS, zq6a, zq4v, zq6o, zq0b, zq9s, zq6f, YC, t7n0, T7n0, zq9x, YR, zq6c, zq53, zq0m, zq0c, zq6g, zq9p, t7n25, T7n25, zq9j])
 have done0 : ∀ F H, denAll H F [2] = some [.bool true] → RetG (cxOf Tryz.prog Tryz.f7 K7 T7 R) ⟨w, w.heap.size, [], 154, []⟩ { F := F, H := H } := fun F H hd =>
  ret_rule (vs := [.bool true]) r7 rfl hd fun W hW => hR _ _ ⟨hW.fresh', rfl⟩
 refine ⟨fun _ => done0 _ _ rfl, fun h1 => ?_⟩
 clear done0
 have hl : l.length ≤ 200 := by have := of_decide_eq_false h1; omega
 refine call_base (vs := [.slice B l.length bc]) rfl (R := fun W v W' => ∃ u, v = .tuple #[u, .int .i64 0] ∧ PartsR l W u W') (fun W hW => parts17 l B bc W (by omega) (hB.keep hW.fresh') (hG.keep hW.fresh')) (fun _ _ _ h => by obtain ⟨_, _, _, _, _, _, _, _, _, _, h⟩ := h; exact h) fun W2 v W3 hW2 ⟨u, hv, pA, pc, ps, hu, k1, k2, k3, _, k4⟩ _ => ?_
 subst hv; subst hu
 have hw2 : Fresh w W3 := Fresh.tr hW2.fresh' k4
 have kp0 : RowAt W3 pA (cellsR ps) := .of_own k2 rfl
 refine ⟨.tup [.val (.slice pA ps.length pc), .val (.int .i64 0)], by simp [Is, IsL], ?_⟩
 rw [show fps ([] : List SO) = [] from rfl]
 (refine Y_go 600 ?_; dsimp only [zq8t, Y_k, zq4u, zq8o, zq6n, Nat.reduceBEq, zq6k, YK, zq5j, zq2f, nth, zq2e, zq6l, zq9i, normF, zq6m, zq86, zq8a, zq87, zq89, zq9y, t7n24, T7n24, zq9r, zq9q, zq9j])
 have hpl := partsR_len k1
 have hbn := bgL_len l
 have enx : nxs ps = (partsL l).map Pa.nx := by rw [← k1]; simp [nxs]
 have hnl : (nxs ps).length = ps.length := by simp [nxs]
 refine call_base (vs := [.slice B l.length bc]) rfl (R := fun W v W' => ∃ u, v = .tuple #[u, .int .i64 0] ∧ ReachR (nxs ps) (-1) W u W') (fun W hW => reached18 l _ enx B bc W (by omega) ((hB.keep hw2).keep hW.fresh') ((hG.keep hw2).keep hW.fresh')) (fun _ _ _ h => by obtain ⟨_, _, _, _, _, _, _, _, h⟩ := h; exact h) fun W4 v W5 hW4 ⟨u, hv, rA, rc, os, hu, j1, j2, j3⟩ _ => ?_
 subst hv; subst hu
 have hw5 : Fresh W3 W5 := Fresh.tr hW4.fresh' j3
 have hw : Fresh w W5 := Fresh.tr hw2 hw5
 have kp : RowAt W5 pA (cellsR ps) := kp0.keep hw5
 have kn : NxAt W5 ps := k3.keep hw5
 have kr : RowAt W5 rA (bsV os) := .of_own j2 rfl
 have hol : os.length = ps.length := by rw [j1.1, hnl]
 clear k2 k3 k4 hW2 hW4 j2 j3 kp0 hw2 hw5
 refine ⟨.tup [.val (.slice rA os.length rc), .val (.int .i64 0)], by simp [Is, IsL], ?_⟩
 rw [show fps ([] : List SO) = [] from rfl]
 (refine Y_go 600 ?_; dsimp only [zq8t, Y_k, zq4u, zq8o, zq6n, Nat.reduceBEq, zq6k, YK, zq5j, zq2f, nth, zq2e, zq6l, zq9i, normF, zq6m, zq86, zq8a, zq87, zq89, zq9y, t7n23, T7n23, zq9r, zq9q, zq50, zq8p, zq6q, zq04, zq92, zq9b, zq0i, zq9d, Y_gk, zq6e, YS, zq6a, zq4v, zq6o, zq0b, zq9s, zq6f, YC, t7n1, T7n1, zq6p, zq9x, YR, zq6c, zq0c, zq55, zq0r, zq6h, zq8x, zq9p, t7n22, T7n22, t7n21, T7n21, zq67, zq06, zq4t, List.length_nil, List.nil_append, zq8f, t7n20, T7n20, zq9t, zq9v])
 have done : ∀ F H, denAll H F [2] = some [.bool true] → RetG (cxOf Tryz.prog Tryz.f7 K7 T7 R) ⟨W5, W5.heap.size, [], 154, []⟩ { F := F, H := H } := fun F H hd =>
  ret_rule (vs := [.bool true]) r7 rfl hd fun W hW => hR _ _ ⟨Fresh.tr hw hW.fresh', rfl⟩
 have h01 : ((0 : Int) != 0) = false := rfl
 refine ⟨fun h => absurd h (by decide), fun _ => ⟨fun h => absurd h (by decide), fun _ => ⟨fun h => absurd h (by simp [hol]), fun _ => ⟨⟨by omega, by omega, by omega, by omega⟩, fun g => ?_⟩⟩⟩⟩
 -- a place's part
 have part : ∀ i, i < ps.length → ∃ (p : PR) (r : Bool), ps[i]? = some p ∧ (nxs ps)[i]? = some p.pa.nx ∧ os[i]? = some r ∧ p.pa.fr = toL l.length (bgL l) i - (toL l.length (bgL l) i - p.pa.fr) ∧ (bgL l)[i]? = some p.pa.fr ∧ p.pa.to = toL l.length (bgL l) i ∧ p.pa.fr < p.pa.to ∧ (∀ m ∈ p.pa.nx, 0 ≤ m ∧ m < ps.length) ∧ p.pa.nx.length ≤ 2 := by
  intro i hi
  have h1 : ps[i]? = some ps[i] := List.getElem?_eq_getElem hi
  have e := nxs_parts k1 h1
  have h3 : (bgL l)[i]? = some (bgL l)[i] := List.getElem?_eq_getElem (by omega)
  have h4 : (ps[i]).pa.fr = (bgL l)[i] := by rw [e]; show (bgL l).getD i 0 = _; rw [List.getD_eq_getElem?_getD, h3]; rfl
  have h5 : (ps[i]).pa.to = toL l.length (bgL l) i := by rw [e]; rfl
  refine ⟨ps[i], os[i]'(by omega), h1, by unfold nxs; rw [List.getElem?_map, h1]; rfl, List.getElem?_eq_getElem (by omega), by omega, by rw [h3, h4], h5, ?_, ?_, ?_⟩
  ·rw [h4, h5]; exact (toL_range h3).1
  ·intro m hm
   rw [e] at hm
   rw [hpl]; exact nxL_range h3 hm
  ·rw [e]; exact nxL_len _ _ _
 refine loop_go (α := Nat × List Bool) (fun q => q.1 ≤ ps.length ∧ BhOk (nxs ps) os q.1 0 q.2) (fun _ => ⟨W5, W5.heap.size, [], 154, []⟩) (fun q => { F := [(0, .val (.slice B l.length bc)), (3, .bt), (4, .val (.slice pA ps.length pc)), (6, .val (.slice rA os.length rc)), (9, .own 0 0), (8, .val (.int .i64 (((bgL l)[q.1]?).getD l.length))), (10, .val (.int .i64 (q.1 : Int)))], H := [.own 4 0 1 (some ⟨g, 0, none⟩) ps.length ps.length (bsV q.2)] }) (fun q => ps.length - q.1) (fun _ => rfl) ?start ?round
 case start =>
  intro a W rep
  have hst := BhOk.start (nxs ps) os
  rw [hnl] at hst
  refine ⟨(0, List.replicate ps.length false), ⟨Nat.zero_le _, hst⟩, rep.le ?_ (by (simp only [setn, List.nil_append, List.cons_append, leF, leH_nil, leH_cons, leF_nil, lk, scp, scpL, scpO, resF, resH, resO, resV, resVL, nth, Nat.reduceBEq, Nat.reduceLT, decide_true, decide_false, List.length, List.length_cons, List.length_nil, Nat.reduceAdd, Bool.and_self, Bool.and_true, and_true, true_and, numF] <;> try simp); exact repN_false _)⟩
  have e0 : ((bgL l)[0]?).getD (l.length : Int) = 0 := by
   by_cases hne : l = []
   ·subst hne; simp [bgL]
   ·rw [bgL_zero hne]; rfl
  simp only
  rw [e0]
  (simp only [setn, List.nil_append, List.cons_append, leF, leH_nil, leH_cons, leF_nil, lk, scp, scpL, scpO, resF, resH, resO, resV, resVL, nth, Nat.reduceBEq, Nat.reduceLT, decide_true, decide_false, List.length, List.length_cons, List.length_nil, Nat.reduceAdd, Bool.and_self, Bool.and_true, and_true, true_and, numF] <;> try simp)
 case round =>
  rintro ⟨i, bh⟩ ⟨hi, hb⟩ I again
  simp only at hi hb ⊢
  have hbl : bh.length = ps.length := by rw [hb.len, hnl]
  (refine Y_go 600 ?_; dsimp only [zq9y, t7n13, T7n13, zq9r, zq9q, Y_k, zq4u, zq8o, zq6n, Nat.reduceBEq, zq6l, zq6k, YK, zq8t, zq55, zq0r, zq50, zq04, zq92, zq9b, zq0i, zq9e, zq9i, normF, zq6m, zq86, zq87, zq8f, zq89, zq9s, zq6h, zq8x, YC, zq9p, t7n12, T7n12, zq9t, zq58, zq06, zq0w, zq5a, zq16, Nat.add_zero, zq5c, zq1p, zq1c, List.nil_append, zq1b, zq18, zq9d, Y_gk, zq6e, YS, zq6a, zq4v, zq8p, zq6o, zq0b, zq6f, t7n2, T7n2, zq6p, zq8a, zq9x, YR, zq6c, zq9f, zq0c, t7n10, T7n10, t7n9, T7n9, zq6q, zq9v, zq9u, popTo, zq6i, YP, t7n19, T7n19])
  refine ⟨fun hlt => ?_, fun hge => ?_⟩
  ·have hlt : i < ps.length := by have := of_decide_eq_true hlt; omega
   obtain ⟨p, r, hp, hnx, hr, _, hfr, hto, hft, hnr, hn2⟩ := part i hlt
   have hi1 : ((i : Nat) : Int).toNat = i := by omega
   have qf : CellAt ⟨W5, W5.heap.size, [], 154, []⟩ pA (i * 3) (.int .i64 p.pa.fr) := kp.cell (by have := cellsR_get (k := 0) hp (by omega); rw [Nat.add_zero] at this; rw [this]; rfl)
   have qt : CellAt ⟨W5, W5.heap.size, [], 154, []⟩ pA (i * 3 + 1) (.int .i64 p.pa.to) := kp.cell (by rw [cellsR_get hp (by omega)]; rfl)
   have qn : CellAt ⟨W5, W5.heap.size, [], 154, []⟩ pA (i * 3 + 2) (.slice p.A p.pa.nx.length p.c) := kp.cell (by rw [cellsR_get hp (by omega)]; rfl)
   have sA : pA.isSome = true := by obtain ⟨a, rfl, _⟩ := qf; rfl
   have kx := kn p (List.mem_of_getElem? hp)
   have bd : (0 : Int) ≤ (i : Int) ∧ (i : Int) < (ps.length : Int) ∧ pA.isSome = true := ⟨by omega, by omega, sA⟩
   have sR : rA.isSome = true := kr.isSome (j := i) (by rw [bsV_len]; omega)
   have bdr : (0 : Int) ≤ (i : Int) ∧ (i : Int) < (os.length : Int) ∧ rA.isSome = true := ⟨by omega, by omega, sR⟩
   have qr : CellAt ⟨W5, W5.heap.size, [], 154, []⟩ rA (i * 1) (.bool r) := kr.cell (by rw [Nat.mul_one]; exact bsV_get hr)
   rw [hi1, hfr, Option.getD_some]
   refine ⟨bd, sA, _, qf, fun h => absurd h (by simp), fun _ => ⟨bd, sA, _, qt, fun h => absurd (of_decide_eq_true h) (by omega), fun _ => ⟨bd, sA, _, qt, ?_⟩⟩⟩
   refine loop_go (α := Nat × List Bool) (fun q => q.1 ≤ p.pa.nx.length ∧ BhOk (nxs ps) os i q.1 q.2) (fun _ => ⟨W5, W5.heap.size, [], 154, []⟩) (fun q => { F := [(0, .val (.slice B l.length bc)), (3, .bt), (4, .val (.slice pA ps.length pc)), (6, .val (.slice rA os.length rc)), (9, .own 0 0), (8, .val (.int .i64 p.pa.to)), (10, .val (.int .i64 (i : Int))), (11, .val (.int .i64 (q.1 : Int)))], H := [.own 4 0 1 (some ⟨g, 0, none⟩) ps.length ps.length (bsV q.2)] }) (fun q => p.pa.nx.length - q.1) (fun _ => rfl) ?start2 ?round2
   case start2 =>
    intro a W rep
    exact ⟨(0, bh), ⟨Nat.zero_le _, hb⟩, rep.le (by (simp only [setn, List.nil_append, List.cons_append, leF, leH_nil, leH_cons, leF_nil, lk, scp, scpL, scpO, resF, resH, resO, resV, resVL, nth, Nat.reduceBEq, Nat.reduceLT, decide_true, decide_false, List.length, List.length_cons, List.length_nil, Nat.reduceAdd, Bool.and_self, Bool.and_true, and_true, true_and, numF] <;> try simp)) (by (simp only [setn, List.nil_append, List.cons_append, leF, leH_nil, leH_cons, leF_nil, lk, scp, scpL, scpO, resF, resH, resO, resV, resVL, nth, Nat.reduceBEq, Nat.reduceLT, decide_true, decide_false, List.length, List.length_cons, List.length_nil, Nat.reduceAdd, Bool.and_self, Bool.and_true, and_true, true_and, numF] <;> try simp))⟩
   case round2 =>
    rintro ⟨k, bh⟩ ⟨hk, hb⟩ I2 again2
    simp only at hk hb ⊢
    have hbl : bh.length = ps.length := by rw [hb.len, hnl]
    have hk1 : ((k : Nat) : Int).toNat = k := by omega
    (refine Y_go 600 ?_; dsimp only [zq9y, t7n8, T7n8, zq9r, zq9q, Y_k, zq4u, zq8o, zq6n, Nat.reduceBEq, zq6l, zq6k, YK, zq8t, zq58, zq06, zq0w, zq5a, zq16, zq5c, zq1p, zq1g, List.nil_append, zq1b, zq18, zq55, zq0r, zq50, zq04, zq92, zq9b, zq0i, zq9e, zq9i, normF, zq6m, zq86, zq87, zq8f, zq89, zq9s, zq6h, zq8x, YC, zq9p, t7n7, T7n7, zq9t, zq1c, t7n5, T7n5, zq8p, zq6q, Y_gk, zq6e, YS, zq6a, zq4v, zq6o, zq0b, zq02, zq6f, t7n3, T7n3, zq6p, zq8a, zq9x, YR, zq6c, zq9h, zq0c, zq1d, zq6d, zq69, zq53, zq0o, t7n4, T7n4, zq0y, nth, zq09, zq08, zq0v, zq1q, zq1n, zq5d, zq7v, zq7h, zq0a, zq1y, zq1w, denL, den, zq1v, splice, setn, zq8s, zqa1, t7n6, T7n6, zq4w, zq0e, zqa2, zq7u, zq7g, zq6b, zq6g, zq9u, popTo, zq6i, YP, t7n11, T7n11])
    rw [hi1]
    refine ⟨bd, sA, _, _, _, qn, fun hlt => ?_, fun hge => ?_⟩
    ·have hlt : k < p.pa.nx.length := by have := of_decide_eq_true hlt; omega
     have hm : p.pa.nx[k]? = some p.pa.nx[k] := List.getElem?_eq_getElem hlt
     have hmr := hnr _ (List.getElem_mem hlt)
     generalize p.pa.nx[k] = m' at hm hmr
     obtain ⟨m, rfl⟩ : ∃ m : Nat, (m : Int) = m' := ⟨m'.toNat, by omega⟩
     have hm1 : ((m : Nat) : Int).toNat = m := by omega
     have hml : m < ps.length := by omega
     have qm : CellAt ⟨W5, W5.heap.size, [], 154, []⟩ p.A (k * 1) (.int .i64 (m : Int)) := kx.cell (by rw [Nat.mul_one]; exact isV_get _ _ _ hm)
     have sN : p.A.isSome = true := by obtain ⟨a, h, _⟩ := qm; rw [h]; rfl
     have hr2 : os[m]? = some os[m] := List.getElem?_eq_getElem (by omega)
     generalize os[m] = r2 at hr2
     have qr2 : CellAt ⟨W5, W5.heap.size, [], 154, []⟩ rA (m * 1) (.bool r2) := kr.cell (by rw [Nat.mul_one]; exact bsV_get hr2)
     have hbm : bh[m]? = some bh[m] := List.getElem?_eq_getElem (by omega)
     generalize bh[m] = b at hbm
     have hone := hb.one hnx hm (by rw [hnl]; exact hml) hr hbm
     have hcl : r = true → r2 = true := fun h => by
      subst h
      exact (j1.2 m r2 hr2).2 (.step ((j1.2 i true hr).1 rfl) hnx (List.mem_of_getElem? hm) (by rw [hnl]; exact hml) (by omega))
     have bdm : (0 : Int) ≤ (m : Int) ∧ (m : Int) < (ps.length : Int) := ⟨by omega, by omega⟩
     have gb : (bsV bh)[((m : Nat) : Int).toNat * 1]? = some (.bool b) := by rw [hm1, Nat.mul_one]; exact bsV_get hbm
     have lb : ((m : Nat) : Int).toNat * 1 + 1 ≤ (bsV bh).length := by rw [bsV_len]; omega
     have k64 : ArOk .add .i64 (k : Int) 1 ((k + 1 : Nat) : Int) := ArOk.to (by omega) (by omega) (by omega)
     have tail : ∀ (F : List (Nat × SV)) (v : Bool), v = (b || r) → leF 1 F [(0, .val (.slice B l.length bc)), (3, .bt), (4, .val (.slice pA ps.length pc)), (6, .val (.slice rA os.length rc)), (9, .own 0 0), (8, .val (.int .i64 p.pa.to)), (10, .val (.int .i64 (i : Int))), (11, .val (.int .i64 ((k + 1 : Nat) : Int)))] → G (cxOf Tryz.prog Tryz.f7 K7 T7 R) ⟨W5, W5.heap.size, [], 154, []⟩ [.lend I2, .blk 2, .blk 1, .code (.ref 11), .lend I, .blk 0, .code (.ref 19)] { F := F, H := [.own 4 0 1 (some ⟨g, 0, none⟩) ps.length ps.length (setn (bsV bh) (((m : Nat) : Int).toNat * 1) (.bool v))] } := fun F v hv hF =>
      lend_rule fun a W rep => again2 (k + 1, bh.set m (b || r)) ⟨by simp only; omega, hone⟩ (by simp only; omega) a W (rep.le hF (by rw [hm1, Nat.mul_one, bsV_set, hv]; (simp only [setn, List.nil_append, List.cons_append, leF, leH_nil, leH_cons, leF_nil, lk, scp, scpL, scpO, resF, resH, resO, resV, resVL, nth, Nat.reduceBEq, Nat.reduceLT, decide_true, decide_false, List.length, List.length_cons, List.length_nil, Nat.reduceAdd, Bool.and_self, Bool.and_true, and_true, true_and, numF] <;> try simp)))
     rw [hk1]
     refine ⟨bd, sA, _, _, _, qn, ⟨by omega, by omega, sN⟩, _, qm, fun h => absurd (of_decide_eq_true h) (by omega), fun _ => ⟨fun h => absurd (of_decide_eq_true h) (by omega), fun _ => ⟨bdr, r, qr, fun hrt => ?_, fun hrf => ?_⟩⟩⟩
     ·have h2 := hcl hrt
      refine ⟨⟨by omega, by omega, sR⟩, r2, by rw [hm1]; exact qr2, fun h => absurd h (by simp [h2]), fun _ => ⟨bdm, b, gb, fun hbt => ⟨bdm, lb, _, k64, tail _ _ (by simp [hbt]) (by (simp only [setn, List.nil_append, List.cons_append, leF, leH_nil, leH_cons, leF_nil, lk, scp, scpL, scpO, resF, resH, resO, resV, resVL, nth, Nat.reduceBEq, Nat.reduceLT, decide_true, decide_false, List.length, List.length_cons, List.length_nil, Nat.reduceAdd, Bool.and_self, Bool.and_true, and_true, true_and, numF] <;> try simp))⟩, fun hbf => ⟨bdr, r, qr, bdm, lb, _, k64, tail _ _ (by simp [hbf]) (by (simp only [setn, List.nil_append, List.cons_append, leF, leH_nil, leH_cons, leF_nil, lk, scp, scpL, scpO, resF, resH, resO, resV, resVL, nth, Nat.reduceBEq, Nat.reduceLT, decide_true, decide_false, List.length, List.length_cons, List.length_nil, Nat.reduceAdd, Bool.and_self, Bool.and_true, and_true, true_and, numF] <;> try simp))⟩⟩⟩
     ·exact ⟨bdm, b, gb, fun hbt => ⟨bdm, lb, _, k64, tail _ _ (by simp [hbt]) (by (simp only [setn, List.nil_append, List.cons_append, leF, leH_nil, leH_cons, leF_nil, lk, scp, scpL, scpO, resF, resH, resO, resV, resVL, nth, Nat.reduceBEq, Nat.reduceLT, decide_true, decide_false, List.length, List.length_cons, List.length_nil, Nat.reduceAdd, Bool.and_self, Bool.and_true, and_true, true_and, numF] <;> try simp))⟩, fun hbf => ⟨bdr, r, qr, bdm, lb, _, k64, tail _ _ (by simp [hbf]) (by (simp only [setn, List.nil_append, List.cons_append, leF, leH_nil, leH_cons, leF_nil, lk, scp, scpL, scpO, resF, resH, resO, resV, resVL, nth, Nat.reduceBEq, Nat.reduceLT, decide_true, decide_false, List.length, List.length_cons, List.length_nil, Nat.reduceAdd, Bool.and_self, Bool.and_true, and_true, true_and, numF] <;> try simp))⟩⟩
    ·have hkl : k = p.pa.nx.length := by have := of_decide_eq_false hge; omega
     subst hkl
     have hto2 : p.pa.to = ((bgL l)[i + 1]?).getD (l.length : Int) := hto
     refine ⟨((i + 1 : Nat) : Int), ArOk.to (by omega) (by omega) (by omega), lend_rule fun a W rep => again (i + 1, bh) ⟨by simp only; omega, hb.next hnx⟩ (by simp only; omega) a W (rep.le ?_ (by (simp only [setn, List.nil_append, List.cons_append, leF, leH_nil, leH_cons, leF_nil, lk, scp, scpL, scpO, resF, resH, resO, resV, resVL, nth, Nat.reduceBEq, Nat.reduceLT, decide_true, decide_false, List.length, List.length_cons, List.length_nil, Nat.reduceAdd, Bool.and_self, Bool.and_true, and_true, true_and, numF] <;> try simp)))⟩
     simp only
     rw [← hto2]
     (simp only [setn, List.nil_append, List.cons_append, leF, leH_nil, leH_cons, leF_nil, lk, scp, scpL, scpO, resF, resH, resO, resV, resVL, nth, Nat.reduceBEq, Nat.reduceLT, decide_true, decide_false, List.length, List.length_cons, List.length_nil, Nat.reduceAdd, Bool.and_self, Bool.and_true, and_true, true_and, numF] <;> try simp)
  ·have hil : i = ps.length := by have := of_decide_eq_false hge; omega
   subst hil
   have hbn2 : ((bgL l)[ps.length]?).getD (l.length : Int) = l.length := by rw [List.getElem?_eq_none (by omega)]; rfl
   rw [hbn2]
   refine loop_go (α := Nat) (fun q => q ≤ ps.length) (fun _ => ⟨W5, W5.heap.size, [], 154, []⟩) (fun q => { F := [(0, .val (.slice B l.length bc)), (3, .bt), (4, .val (.slice pA ps.length pc)), (6, .val (.slice rA os.length rc)), (9, .own 0 0), (8, .val (.int .i64 (l.length : Int))), (13, .val (.int .i64 (q : Int)))], H := [.own 4 0 1 (some ⟨g, 0, none⟩) ps.length ps.length (bsV bh)] }) (fun q => ps.length - q) (fun _ => rfl) ?start3 ?round3
   case start3 =>
    intro a W rep
    exact ⟨0, Nat.zero_le _, rep.le (by (simp only [setn, List.nil_append, List.cons_append, leF, leH_nil, leH_cons, leF_nil, lk, scp, scpL, scpO, resF, resH, resO, resV, resVL, nth, Nat.reduceBEq, Nat.reduceLT, decide_true, decide_false, List.length, List.length_cons, List.length_nil, Nat.reduceAdd, Bool.and_self, Bool.and_true, and_true, true_and, numF] <;> try simp)) (by (simp only [setn, List.nil_append, List.cons_append, leF, leH_nil, leH_cons, leF_nil, lk, scp, scpL, scpO, resF, resH, resO, resV, resVL, nth, Nat.reduceBEq, Nat.reduceLT, decide_true, decide_false, List.length, List.length_cons, List.length_nil, Nat.reduceAdd, Bool.and_self, Bool.and_true, and_true, true_and, numF] <;> try simp))⟩
   case round3 =>
    intro i hi I3 again3
    have hi : i ≤ ps.length := hi
    have hi1 : ((i : Nat) : Int).toNat = i := by omega
    (refine Y_go 600 ?_; dsimp only [zq9y, t7n17, T7n17, zq9r, zq9q, Y_k, zq4u, zq8o, zq6n, Nat.reduceBEq, zq6l, zq6k, YK, zq8t, zq55, zq0r, zq50, zq04, zq92, zq9b, zq0i, zq9e, zq9i, normF, zq6m, zq86, zq87, zq8f, zq89, zq9s, zq6h, zq8x, YC, zq9p, t7n16, T7n16, zq9t, zq58, zq06, zq0w, zq5c, zq1p, zq1d, List.nil_append, zq1b, zq18, zq8p, zq6q, zq9c, Y_gk, zq6e, YS, zq6a, zq4v, zq6o, zq0b, zq51, zq8w, zq8u, zq0j, t7n14, T7n14, zq6p, zq8a, zq9x, zqa1, t7n15, T7n15, zq4w, zq0e, zqa2, YR, zq6c, zq0y, nth, zq09, zq08, zq0v, zq1q, zq1n, zq0c, zq9u, popTo, zq6i, YP, t7n18, T7n18, zq69])
    refine ⟨fun hlt => ?_, fun hge => ?_⟩
    ·have hlt : i < ps.length := by have := of_decide_eq_true hlt; omega
     obtain ⟨p, r, hp, hnx, hr, _⟩ := part i hlt
     have sR : rA.isSome = true := kr.isSome (j := i) (by rw [bsV_len]; omega)
     have bdr : (0 : Int) ≤ (i : Int) ∧ (i : Int) < (os.length : Int) ∧ rA.isSome = true := ⟨by omega, by omega, sR⟩
     have qr : CellAt ⟨W5, W5.heap.size, [], 154, []⟩ rA (i * 1) (.bool r) := kr.cell (by rw [Nat.mul_one]; exact bsV_get hr)
     have hbm : bh[i]? = some bh[i] := List.getElem?_eq_getElem (by omega)
     generalize bh[i] = b at hbm
     have hbf := (hnl ▸ hb : BhOk (nxs ps) os (nxs ps).length 0 bh).fin j1 hr hbm
     have k64 : ArOk .add .i64 (i : Int) 1 ((i + 1 : Nat) : Int) := ArOk.to (by omega) (by omega) (by omega)
     rw [hi1]
     refine ⟨bdr, r, qr, fun h0 => ⟨fun h => absurd h ?_, fun _ => ⟨_, k64, lend_rule fun a W rep => again3 (i + 1) (by show i + 1 ≤ _; omega) (by show _ - (i + 1) < _ - i; omega) a W (rep.le (by (simp only [setn, List.nil_append, List.cons_append, leF, leH_nil, leH_cons, leF_nil, lk, scp, scpL, scpO, resF, resH, resO, resV, resVL, nth, Nat.reduceBEq, Nat.reduceLT, decide_true, decide_false, List.length, List.length_cons, List.length_nil, Nat.reduceAdd, Bool.and_self, Bool.and_true, and_true, true_and, numF] <;> try simp)) (by (simp only [setn, List.nil_append, List.cons_append, leF, leH_nil, leH_cons, leF_nil, lk, scp, scpL, scpO, resF, resH, resO, resV, resVL, nth, Nat.reduceBEq, Nat.reduceLT, decide_true, decide_false, List.length, List.length_cons, List.length_nil, Nat.reduceAdd, Bool.and_self, Bool.and_true, and_true, true_and, numF] <;> try simp)))⟩⟩, fun h0 => ⟨⟨by omega, by omega⟩, b, by rw [Nat.mul_one]; exact bsV_get hbm, fun h => absurd h ?_, fun _ => ⟨_, k64, lend_rule fun a W rep => again3 (i + 1) (by show i + 1 ≤ _; omega) (by show _ - (i + 1) < _ - i; omega) a W (rep.le (by (simp only [setn, List.nil_append, List.cons_append, leF, leH_nil, leH_cons, leF_nil, lk, scp, scpL, scpO, resF, resH, resO, resV, resVL, nth, Nat.reduceBEq, Nat.reduceLT, decide_true, decide_false, List.length, List.length_cons, List.length_nil, Nat.reduceAdd, Bool.and_self, Bool.and_true, and_true, true_and, numF] <;> try simp)) (by (simp only [setn, List.nil_append, List.cons_append, leF, leH_nil, leH_cons, leF_nil, lk, scp, scpL, scpO, resF, resH, resO, resV, resVL, nth, Nat.reduceBEq, Nat.reduceLT, decide_true, decide_false, List.length, List.length_cons, List.length_nil, Nat.reduceAdd, Bool.and_self, Bool.and_true, and_true, true_and, numF] <;> try simp)))⟩⟩⟩
     ·have h0 : i = 0 := by have : (i : Int) = 0 := by simpa using h0
                            omega
      subst h0
      rw [hbf]; simp
     ·have h0 : i ≠ 0 := by intro e; subst e; simp at h0
      rw [hbf, decide_eq_false h0]; simp
    ·refine done _ _ ?_
     show some [Value.bool ((l.length : Int) == (l.length : Int))] = _
     simp
end Go.Proofs.YtlbiogokpadaoaaGreatDoor
