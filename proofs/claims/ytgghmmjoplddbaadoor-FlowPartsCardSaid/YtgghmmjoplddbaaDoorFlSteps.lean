/- flow: which part has a place, and what comes behind it, in plain words. -/
import Derived.Test.YtgghmmjoplddbaaDoorFlPlain
import Derived.Test.YtgghmmjoplddbaaDoorFlDefs
import Derived.Test.YtgghmmjoplddbaaDoorSxStill
import Derived.Test.YtgghmmjoplddbaaDoorDFlCode
set_option linter.unusedSimpArgs false
set_option linter.unusedVariables false
set_option linter.unnecessarySimpa false
namespace Go.Isa
open Go
def atL (l : List In) (p : Nat) : Nat := posI (bgL l) ((p : Int) + 1) - 1
theorem at_part {l : List In} {p : Nat} (hp : p < l.length) : ∃ x, (bgL l)[atL l p]? = some x ∧ x ≤ p ∧ (p : Int) < toL l.length (bgL l) (atL l p) ∧ posI (bgL l) ((p : Int) + 1) = atL l p + 1 := by
 have hl : l ≠ [] := by intro e; subst e; simp at hp
 have h0 : 0 < posI (bgL l) ((p : Int) + 1) := (posI_below (bgL_up l) (bgL_zero hl)).2 (by omega)
 have h1 := posI_le (bgL l) ((p : Int) + 1)
 have e : posI (bgL l) ((p : Int) + 1) = atL l p + 1 := by unfold atL; omega
 have hlt : atL l p < (bgL l).length := by omega
 refine ⟨(bgL l)[atL l p], List.getElem?_eq_getElem hlt, ?_, ?_, e⟩
 ·have := (posI_below (bgL_up l) (x := (p : Int) + 1) (List.getElem?_eq_getElem hlt)).1 (by omega)
  omega
 ·unfold toL
  cases h : (bgL l)[atL l p + 1]? with
  | none => simp only [Option.getD_none]; omega
  | some y =>
   have := mt (posI_below (bgL_up l) (x := (p : Int) + 1) h).2 (by omega)
   simp only [Option.getD_some]; omega
end Go.Isa
namespace Go.Proofs.YtgghmmjoplddbaaDoor
open Go Go.Sx Go.Isa
set_option maxRecDepth 100000
def PartsR (l : List In) (w : World) (v : Value) (w' : World) : Prop := ∃ (A : Option Addr) (c : Nat) (ps : List PR), v = .slice A ps.length c ∧ ps.map PR.pa = partsL l ∧ World.ownsB w' w.heap.size 32 3 (.slice A ps.length c) ps.length (cellsR ps) ∧ NxAt w' ps ∧ NxNew w.heap.size ps ∧ Fresh w w'
theorem partsR_len {l : List In} {ps : List PR} (h : ps.map PR.pa = partsL l) : ps.length = (bgL l).length := by
 have := congrArg List.length h
 rw [List.length_map, partsL_len] at this; exact this
theorem parts17 (l : List In) (B : Option Addr) (bc : Nat) (w : World) (hl : l.length ≤ 1024) (hB : RowAt w B (cellsI l)) (hG : ShAt w) :
  CallsV Tryd.prog 6 [.slice B l.length bc] w fun v w' => ∃ u, v = .tuple #[u, .int .i64 0] ∧ PartsR l w u w' := by
 refine calls_go (keep := K6) (nt := 9) (svs := [.val (.slice B l.length bc)]) Tryd.func6 x6 n6 (by simp) (by simp [IsL, Is]) fun R hR => ?_
 (refine Y_go 600 ?_; dsimp only [X6, numF, Nat.reduceAdd, zq9r, zq9q, Y_k, zq4u, zq8p, zq6u, YK, zq8t, zq6q, zq9i, normF, zq6n, Nat.reduceBEq, zq6l, zq6k, zq6m, zq86, zq87, zq9y, t6n2, T6n2, zq8o, zq55, zq0r, zq50, zq04, zq92, zq9b, zq0i, zq9g, zq9s, zq6h, zq8x, YC, t6n0, T6n0, zq89, zq9x, zq9p, t6n1, T6n1, zq9j])
 refine ⟨fun h => absurd (of_decide_eq_true h) (by omega), fun _ => ?_⟩
 refine call_base (vs := [.slice B l.length bc]) rfl (R := fun W v W' => PartsR l W v W') (fun W hW => parts33 l B bc W hl (hB.keep hW.fresh') (hG.keep hW.fresh')) (fun _ _ _ h => by obtain ⟨_, _, _, _, _, _, _, _, h⟩ := h; exact h) fun W v W' hW ⟨A, c, ps, hv, h1, h2, h3, h5, h4⟩ ov => ?_
 subst hv
 have hw1 : Fresh w W' := Fresh.tr hW.fresh' h4
 have hlow := ownsB_low h2 hW.fresh'.size
 refine ⟨.val (.slice A ps.length c), by simp [Is], ?_⟩
 have hfp : fps ([] : List SO) = [] := rfl
 rw [hfp]
 (refine Y_go 600 ?_; dsimp only [zq8t, Y_k, zq4u, zq8o, zq6n, Nat.reduceBEq, zq6k, YK, zq8p, zq6q, zq9i, normF, zq6l, zq8a, zq87, zq9x])
 exact ret_rule (vs := [_, _]) r6 rfl rfl fun W2 hW2 => hR _ _ ⟨_, rfl, A, c, ps, rfl, h1, ownsB_keep hlow hW2.fresh', h3.keep hW2.fresh', h5.le hW.fresh'.size, Fresh.tr hw1 hW2.fresh'⟩
theorem parts17_big (n : Nat) (B : Option Addr) (bc : Nat) (w : World) (hl : 1024 < n) :
  CallsV Tryd.prog 6 [.slice B n bc] w fun v w' => v = .tuple #[.slice none 0 0, .int .i64 2] ∧ Fresh w w' := by
 refine calls_go (keep := K6) (nt := 9) (svs := [.val (.slice B n bc)]) Tryd.func6 x6 n6 (by simp) (by simp [IsL, Is]) fun R hR => ?_
 (refine Y_go 600 ?_; dsimp only [X6, numF, Nat.reduceAdd, zq9r, zq9q, Y_k, zq4u, zq8p, zq6u, YK, zq8t, zq6q, zq9i, normF, zq6n, Nat.reduceBEq, zq6l, zq6k, zq6m, zq86, zq87, zq9y, t6n2, T6n2, zq8o, zq55, zq0r, zq50, zq04, zq92, zq9b, zq0i, zq9g, zq9s, zq6h, zq8x, YC, t6n0, T6n0, zq89, zq9x, zq9p, t6n1, T6n1, zq9j])
 exact ⟨fun _ => ret_rule (vs := [_, _]) r6 rfl rfl fun W2 hW2 => hR _ _ ⟨rfl, hW2.fresh'⟩, fun h => absurd (of_decide_eq_false h) (by omega)⟩
theorem begins48o (l : List In) (B : Option Addr) (bc : Nat) (W : World) (hl : l.length ≤ 1024) (hB : RowAt W B (cellsI l)) (hG : ShAt W) : CallsV Tryd.prog 22 [.slice B l.length bc] W fun v W' => World.ownsB W' W.heap.size 3 1 v (bgL l).length (isV (bgL l)) ∧ Fresh W W' := by
 refine (begins48 l B bc W hl hB hG).mono ?_
 rintro v W' ⟨A, c, zs, rfl, h1, h2, h3, h4⟩
 have e : zs = bgL l := by
  unfold bgL
  split
  ·rename_i h; exact h1 h
  ·rename_i h; exact h2 h
 subst e; exact ⟨h3, h4⟩
def atE (n : Nat) (p : Int) : Bool := decide (n ≤ 1024) && decide (0 ≤ p) && decide (p < n)
theorem at23 (l : List In) (B : Option Addr) (bc : Nat) (p : Int) (w : World) (hB : RowAt w B (cellsI l)) (hG : ShAt w) (hp : is64 p) :
  CallsV Tryd.prog 8 [.slice B l.length bc, .int .i64 p] w fun v w' => v = (if atE l.length p then .tuple #[.int .i64 (atL l p.toNat : Int), .int .i64 0] else .tuple #[.int .i64 0, .int .i64 2]) ∧ Fresh w w' := by
 refine calls_go (keep := K8) (nt := 25) (svs := [.val (.slice B l.length bc), .val (.int .i64 p)]) Tryd.func8 x8 n8 (by simp) (by simp [IsL, Is]) fun R hR => ?_
 (refine Y_go 600 ?_; dsimp only [X8, numF, Nat.reduceAdd, zq9r, zq9q, Y_k, zq4u, zq8p, zq6q, YK, zq8t, zq9i, normF, zq6n, Nat.reduceBEq, zq6l, zq6k, zq6m, zq86, zq87, zq9y, t8n2, T8n2, zq8o, zq55, zq0r, zq50, zq04, zq92, zq9b, zq0i, zq9g, Y_gk, zq6e, YS, zq6a, zq4v, zq6o, zq0b, zq89, zq9s, zq6f, YC, t8n0, T8n0, zq9x, YR, zq6c, zq9e, zq0c, zq9h, zq6h, zq8x, zq9p, t8n1, T8n1, zq9j])
 refine ⟨fun h => ?_, fun h1 => ⟨fun h => ?_, fun h2 => ⟨fun h => ?_, fun h3 => ?_⟩⟩⟩
 ·refine ret_rule (vs := [_, _]) r8 rfl rfl fun W2 hW2 => hR _ _ ⟨?_, hW2.fresh'⟩
  have : atE l.length p = false := by unfold atE; rw [decide_eq_false (by have := of_decide_eq_true h; omega)]; rfl
  rw [this]; rfl
 ·refine ret_rule (vs := [_, _]) r8 rfl rfl fun W2 hW2 => hR _ _ ⟨?_, hW2.fresh'⟩
  have : atE l.length p = false := by unfold atE; rw [decide_eq_false (p := 0 ≤ p) (by have := of_decide_eq_true h; omega)]; simp
  rw [this]; rfl
 ·refine ret_rule (vs := [_, _]) r8 rfl rfl fun W2 hW2 => hR _ _ ⟨?_, hW2.fresh'⟩
  have : atE l.length p = false := by unfold atE; rw [decide_eq_false (p := p < l.length) (by have := of_decide_eq_true h; omega)]; simp
  rw [this]; rfl
 ·have h1 := of_decide_eq_false h1
  have h2 := of_decide_eq_false h2
  have h3 := of_decide_eq_false h3
  have hl : l.length ≤ 1024 := by omega
  have e1 : atE l.length p = true := by unfold atE; simp; omega
  have hne : l ≠ [] := by intro e; subst e; simp at h3; omega
  have hb0 : 0 < (bgL l).length := bgL_pos hne
  have hbn := bgL_len l
  have hpn : (p.toNat : Int) = p := by omega
  refine call_own (t := 3) (sz := 1) (n := (bgL l).length) (xs := isV (bgL l)) rfl (fun W hW => begins48o l B bc W hl (hB.keep hW.fresh') (hG.keep hW.fresh')) fun bA bC => ?_
  simp only [putF, List.nil_append, List.length_nil]
  (refine Y_go 600 ?_; dsimp only [Y_k, zq4u, zq8o, zq6n, Nat.reduceBEq, zq6l, zq6k, YK, zq8t, zq4w, zq8p, zq6q, zq04, zq92, zq9b, zq0e, zq9j])
  refine ⟨p + 1, ArOk.to rfl (by omega) (by omega), ?_⟩
  refine call_val (vs := [.slice bA (bgL l).length bC, .int .i64 (p + 1)]) rfl (fun W hW => find47 hW (i := 0) rfl (by omega) hb0 ((bgL_up l).imp fun h => Int.le_of_lt h) (p + 1)) fun v hv => ⟨.val (.int .i64 (posI (bgL l) (p + 1) : Int)), by rw [hv]; simp [Is], ?_⟩
  (refine Y_go 600 ?_; dsimp only [zq8t, Y_k, zq4w, zq8o, zq6n, Nat.reduceBEq, zq6k, zq8p, zq6q, zq04, zq92, zq9b, zq0e, YK, zq4u, zq9i, normF, zq6l, zq8a, zq87, zq9x])
  obtain ⟨x, hx, hx1, hx2, hx3⟩ := at_part (l := l) (p := p.toNat) (by omega)
  rw [hpn] at hx3
  rw [hx3]
  have hlt : atL l p.toNat < (bgL l).length := (List.getElem?_eq_some_iff.1 hx).1
  refine ⟨(atL l p.toNat : Int), ArOk.toSub (by omega) (by omega) (by omega), ?_⟩
  exact ret_rule (vs := [_, _]) r8 rfl rfl fun W2 hW2 => hR _ _ ⟨by rw [e1]; rfl, hW2.fresh'⟩
def bsV (o : List Bool) : List Value := o.map Value.bool
theorem bsV_len (o : List Bool) : (bsV o).length = o.length := by simp [bsV]
theorem bsV_get {o : List Bool} {i : Nat} {b : Bool} (h : o[i]? = some b) : (bsV o)[i]? = some (.bool b) := by
 unfold bsV; rw [List.getElem?_map, h]; rfl
theorem bsV_set (o : List Bool) (i : Nat) (b : Bool) : setn (bsV o) i (.bool b) = bsV (o.set i b) := by
 rw [setn_eq]; unfold bsV; rw [List.map_set]
theorem repN_false : ∀ n, repN n [Value.bool false] = bsV (List.replicate n false)
 | 0 => rfl
 | n + 1 => by
  show Value.bool false :: repN n [Value.bool false] = _
  rw [repN_false n]; rfl
def nxs (ps : List PR) : List (List Int) := ps.map fun p => p.pa.nx
end Go.Proofs.YtgghmmjoplddbaaDoor
