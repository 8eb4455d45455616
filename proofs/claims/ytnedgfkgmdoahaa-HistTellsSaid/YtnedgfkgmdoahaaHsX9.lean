/- hist.Tally. -/
import Derived.Test.YtnedgfkgmdoahaaHsX8
import Derived.Test.YtnedgfkgmdoahaaHsCodeT
set_option linter.unusedSimpArgs false
set_option linter.unusedVariables false
set_option linter.unnecessarySimpa false
namespace Go.Proofs.Ytnedgfkgmdoahaa
open Go Go.Sx Go.Hs
set_option maxRecDepth 100000
theorem tally33 (A : Option Addr) (c : Nat) (h : List Ev) (core : Int) (w : World) (hA : RowAt w A (cellsE h)) (hl : h.length ≤ 1000) :
  CallsV Try.prog 33 [.slice A h.length c, .int .i64 core] w fun v w' => ((splitL h = none ∧ v = .tuple #[.agg (talV tal0).toArray, .int .i64 120]) ∨ ∃ l, splitL h = some l ∧ v = .tuple #[.agg (talV (talL core l)).toArray, .int .i64 0]) ∧ Fresh w w' := by
 refine calls_go (keep := K33) (nt := 72) (svs := [.val (.slice A h.length c), .val (.int .i64 core)]) Try.func33 x33 n33 (by simp) (by simp [IsL, Is]) fun R hR => ?_
 (refine Y_go 600 ?_; dsimp only [X33, numF, Nat.reduceAdd, zq9r, zq9q, Y_k, zq5e, List.length_nil, List.map, zq6q, List.nil_append, YK, zq8t, zq4u, zq8p, zq9i, normF, zq6n, Nat.reduceBEq, zq6l, zq6k, zq6m, zq86, zq87, zq8c, zq9y, t33n12, T33n12, zq8o, zq9j])
 intro g1
 refine call_base (vs := [.slice A h.length c]) rfl (R := fun W v w' => (splitL h = none ∧ v = .tuple #[.slice none 0 0, .int .i64 120] ∧ Fresh W w') ∨
   (∃ (z : List (At × Hd)) (B : Option Addr) (bc : Nat), splitL h = some (z.map (·.1)) ∧ v = .tuple #[.slice B z.length bc, .int .i64 0] ∧ HeapOk ⟨W, W.heap.size, [], 67, []⟩ ([.own 122 0 1 B z.length bc (ptrs z)] ++ famQ 124 92 z) w')) (fun W hW => split54 A c h W (hA.keep hW.fresh') hl) (fun _ _ _ hr => by
    rcases hr with ⟨_, _, hf⟩ | ⟨_, _, _, _, _, hh⟩
    ·exact hf
    ·exact hh.fresh') fun W v W' hW hr ov => ?_
 have hst : ∀ g ∈ fps [SO.cells g1 79 [(.val (.int .i64 0) : SV), (.val (.int .i64 0) : SV), (.val (.int .i64 0) : SV), (.val (.int .i64 0) : SV), (.val (.int .i64 0) : SV), (.val (.int .i64 0) : SV), (.val (.int .i64 0) : SV), (.val (.int .i64 0) : SV), (.val (.int .i64 0) : SV), (.val (.int .i64 0) : SV), (.val (.int .i64 0) : SV), (.val (.int .i64 0) : SV), (.val (.int .i64 0) : SV), (.val (.int .i64 0) : SV), (.val (.int .i64 0) : SV)]], g < W.heap.size := fun g hg => hW.fps_lt hg
 simp only [putF] at ov ⊢
 generalize fps [SO.cells g1 79 [(.val (.int .i64 0) : SV), (.val (.int .i64 0) : SV), (.val (.int .i64 0) : SV), (.val (.int .i64 0) : SV), (.val (.int .i64 0) : SV), (.val (.int .i64 0) : SV), (.val (.int .i64 0) : SV), (.val (.int .i64 0) : SV), (.val (.int .i64 0) : SV), (.val (.int .i64 0) : SV), (.val (.int .i64 0) : SV), (.val (.int .i64 0) : SV), (.val (.int .i64 0) : SV), (.val (.int .i64 0) : SV), (.val (.int .i64 0) : SV)]] = st at hst ov ⊢
 rcases hr with ⟨hs, hv, hf⟩ | ⟨z, B, bc, hs, hv, hh⟩
 ·refine ⟨.tup [.val (.slice none 0 0), .val (.int .i64 120)], by rw [hv]; simp [Is, IsL], ?_⟩
  (refine Y_go 600 ?_; dsimp only [Y_k, zq4u, zq8o, zq6n, Nat.reduceBEq, zq6k, YK, zq8t, zq5j, zq2f, nth, zq2e, zq6l, zq9i, normF, zq6m, zq86, zq87, zq8c, zq9y, t33n11, T33n11, zq9r, zq9q, zq50, zq8p, zq6q, zq04, zq92, zq9b, zq0i, zq9d, zq9s, zq6h, zq8x, YC, t33n0, T33n0, zq5g, List.map, zq22, zq25, zq5d, zq7t, List.length_cons, List.length_nil, Nat.reduceAdd, zq8l, zq73, zq8m, zq8k, zq0a, zq1x, zq1t, dropL, takeL, zq1r, splice, setn, zq8s, zq89, zq9x, zq9p, t33n10, T33n10, zq5e, List.cons_append, List.nil_append, zq8a, t33n9, T33n9, zq55, zq0r, zq9t, zq9v])
  refine ⟨fun _ => ?_, fun hb => absurd hb (by decide)⟩
  refine ret_rv (vs := [.agg (talV tal0).toArray, .int .i64 120]) r33 rfl rfl fun W hW => hR _ _ ⟨.inl ⟨hs, rfl⟩, (ov.heap hW).fresh'⟩
 refine ⟨.tup [.val (.slice B z.length bc), .val (.int .i64 0)], by rw [hv]; simp [Is, IsL], ?_⟩
 have hpE : RowE ⟨W', W'.heap.size, st, 72, []⟩ B (ptrs z) := ownsB_rowE (hh.owns (i := 0) rfl) hst 72 []
 have hcE : ∀ p ∈ z, RowE ⟨W', W'.heap.size, st, 72, []⟩ (some ⟨p.2.g, 0, none⟩) (cellsA p.1 p.2) := fun p hp => by
  have hm := List.mem_append_right [SO.own 122 0 1 B z.length bc (ptrs z)] (famQ_mem 124 92 hp (.row p.2.g 124 (cellsA p.1 p.2)) (by simp [quad]))
  obtain ⟨i, hi⟩ := List.getElem?_of_mem hm
  have hi : nth ([SO.own 122 0 1 B z.length bc (ptrs z)] ++ famQ 124 92 z) i = some (SO.row p.2.g 124 (cellsA p.1 p.2)) := by rw [nth_eq]; exact hi
  refine (hh.cellsRow hi).toE (fun g hg j u a _ ha => ?_) 72 []
  have h1 := hst g hg
  have h2 := hh.newer hi (g := p.2.g) rfl
  injection ha with ha
  subst ha
  show p.2.g ≠ g
  omega
 (refine Y_go 600 ?_; dsimp only [Y_k, zq4u, zq8o, zq6n, Nat.reduceBEq, zq6k, YK, zq8t, zq5j, zq2f, nth, zq2e, zq6l, zq9i, normF, zq6m, zq86, zq87, zq8c, zq9y, t33n11, T33n11, zq9r, zq9q, zq50, zq8p, zq6q, zq04, zq92, zq9b, zq0i, zq9d, zq9s, zq6h, zq8x, YC, t33n0, T33n0, zq5g, List.map, zq22, zq25, zq5d, zq7t, List.length_cons, List.length_nil, Nat.reduceAdd, zq8l, zq73, zq8m, zq8k, zq0a, zq1x, zq1t, dropL, takeL, zq1r, splice, setn, zq8s, zq89, zq9x, zq9p, t33n10, T33n10, zq5e, List.cons_append, List.nil_append, zq8a, t33n9, T33n9, zq55, zq0r, zq9t, zq9v])
 refine ⟨fun hb => absurd hb (by decide), fun _ g => ?_⟩
 obtain ⟨s0, hs0, hso⟩ : ∃ s0, sp h h.length = some s0 ∧ s0.out = z.map (·.1) := by
  unfold splitL at hs
  cases hq : sp h h.length with
  | none => rw [hq] at hs; cases hs
  | some s => rw [hq] at hs; injection hs with hs; exact ⟨s, rfl, hs⟩
 have hzl : z.length ≤ 1000 := by
  have h1 : z.length = s0.out.length := by rw [hso, List.length_map]
  have h2 := (sp_ok hs0).len
  omega
 have hrng : ∀ x ∈ z.map (·.1), (1 ≤ x.lane ∧ x.lane ≤ 4) ∧ CodeOk x := fun x hx => by
  rw [← hso] at hx
  have := (sp_ok hs0).rng x hx
  exact ⟨by omega, sp_code hs0 x hx⟩
 have hR2 : ∀ W2, Fresh w W2 → R (.tuple #[.agg (talV (talL core (z.map (·.1)))).toArray, .int .i64 0]) W2 := fun W2 hf => hR _ _ ⟨.inr ⟨_, hs, rfl⟩, hf⟩
 clear hR hs hso hs0
 generalize hzz : z.map (·.1) = ls at *
 have hll : ls.length = z.length := by rw [← hzz, List.length_map]
 refine loop_go (α := Nat) (fun i => i ≤ z.length) (fun _ => ⟨W', W'.heap.size, st, 72, []⟩)
  (fun i => { F := [(1, .val (.int .i64 core)), (4, .ptr 0 0), (6, .val (.slice B z.length bc)), (8, .ptr 1 0), (20, .val (.slice B z.length bc)), (21, .val (.int .i64 z.length)), (22, .val (.int .i64 i))], H := [.cells g1 79 [(.val (.int .i64 0) : SV), (.val (.int .i64 0) : SV), (.val (.int .i64 0) : SV), (.val (.int .i64 0) : SV), (.val (.int .i64 0) : SV), (.val (.int .i64 0) : SV), (.val (.int .i64 0) : SV), (.val (.int .i64 0) : SV), (.val (.int .i64 0) : SV), (.val (.int .i64 0) : SV), (.val (.int .i64 0) : SV), (.val (.int .i64 0) : SV), (.val (.int .i64 0) : SV), (.val (.int .i64 0) : SV), (.val (.int .i64 0) : SV)], .row g 79 (talV (talL core (ls.take i)))] }) (fun i => z.length - i) (fun _ => rfl) ?start ?round
 case start =>
  intro a W rep
  exact ⟨0, Nat.zero_le _, (rep.torow 1 (g := g) (t := 79) (xs := talV tal0) rfl rfl).le (by (simp only [setn, List.nil_append, List.cons_append, leF, leH_nil, leH_cons, leF_nil, lk, scp, scpL, scpO, resF, resH, resO, resV, resVL, nth, Nat.reduceBEq, Nat.reduceLT, decide_true, decide_false, List.length, List.length_cons, List.length_nil, Nat.reduceAdd, Bool.and_self, Bool.and_true, and_true, true_and, numF] <;> try simp)) (by (simp only [setn, List.nil_append, List.cons_append, leF, leH_nil, leH_cons, leF_nil, lk, scp, scpL, scpO, resF, resH, resO, resV, resVL, nth, Nat.reduceBEq, Nat.reduceLT, decide_true, decide_false, List.length, List.length_cons, List.length_nil, Nat.reduceAdd, Bool.and_self, Bool.and_true, and_true, true_and, numF] <;> try simp); rfl)⟩
 case round =>
  intro i hi I again
  have hi : i ≤ z.length := hi
  obtain ⟨htl, htv⟩ := talTo_ok core ls i (by omega)
  (refine Y_go 600 ?_; dsimp only [zq9y, t33n7, T33n7, zq9r, zq9q, Y_k, zq50, zq8o, zq6n, Nat.reduceBEq, zq6l, zq6k, zq04, zq92, zq9b, zq0i, zq9e, YK, zq8t, zq9i, normF, zq6m, zq86, zq87, zq8c, t33n6, T33n6, zq9s, zq6h, zq8x, YC, zq9p, t33n5, T33n5, zq9t, zq58, zq06, zq0w, zq5c, zq1p, zq1f, List.nil_append, zq1b, zq18, zq4u, zq89, zq8d, t33n4, T33n4, zq5i, zq2b, zq5a, zq16, Nat.add_zero, zq1c, Nat.reduceAdd, zq9d, Y_gk, zq6e, YS, zq6a, zq4v, zq8p, zq6o, zq0b, zq6f, zqa1, zq4w, zq6q, zq0e, zqa2, YR, zq6c, zq0c, t33n3, T33n3, zq1d, zq8a, t33n1, T33n1, zq14, zq59, zq10, zq1o, nth, zq1l, zq5d, zq7u, zq73, zq0a, zq1x, zq1u, denL, den, zq1s, splice, setn, zq8s, t33n2, T33n2, zq9u, popTo, zq6i, YP, t33n8, T33n8, List.cons_append, zq17, zq7t, List.length_cons, List.length_nil, zq8l, zq8m, zq8k, zq1t, dropL, takeL, zq1r, zq9x])
  refine ⟨fun hlt => ?_, fun hge => ?_⟩
  ·have hlt : i < z.length := by have := of_decide_eq_true hlt; omega
   have hzi : z[i]? = some z[i] := List.getElem?_eq_getElem hlt
   generalize z[i] = pz at hzi
   have hc := hcE pz (List.mem_of_getElem? hzi)
   have hBs : B.isSome = true := RowE.isSome hpE (j := i) (by simp [ptrs]; omega)
   have hbz : 0 ≤ (i : Int) ∧ (i : Int) < (z.length : Int) ∧ B.isSome = true := ⟨by omega, by omega, hBs⟩
   have haddi : ArOk .add .i64 (i : Int) 1 ((i + 1 : Nat) : Int) := ArOk.to (by omega) (by omega) (by omega)
   have hx := hrng pz.1 (by rw [← hzz]; exact List.mem_map_of_mem (f := fun x : At × Hd => x.1) (List.mem_of_getElem? hzi))
   have htk : talL core (ls.take (i + 1)) = talS core (talL core (ls.take i)) pz.1 := by
    rw [List.take_add_one, ← hzz, List.getElem?_map, hzi]
    exact talL_snoc _ _ _
   have hptr : CellAt ⟨W', W'.heap.size, st, 72, []⟩ B ((i : Int).toNat * 1) (.pointer (some ⟨pz.2.g, 0, none⟩)) := hpE.cell (by rw [Int.toNat_natCast, Nat.mul_one]; exact ptrs_get hzi)
   obtain ⟨x, hd⟩ := pz
   simp only at hc hx htk hptr
   generalize talL core (ls.take i) = t at *
   have nx : ∀ t', t' = talS core t x → ∀ (a : Act) (W : World), Rep ⟨W', W'.heap.size, st, 72, []⟩ { F := [(1, .val (.int .i64 core)), (4, .ptr 0 0), (6, .val (.slice B z.length bc)), (8, .ptr 1 0), (20, .val (.slice B z.length bc)), (21, .val (.int .i64 z.length)), (22, .val (.int .i64 ((i + 1 : Nat) : Int)))], H := [.cells g1 79 [(.val (.int .i64 0) : SV), (.val (.int .i64 0) : SV), (.val (.int .i64 0) : SV), (.val (.int .i64 0) : SV), (.val (.int .i64 0) : SV), (.val (.int .i64 0) : SV), (.val (.int .i64 0) : SV), (.val (.int .i64 0) : SV), (.val (.int .i64 0) : SV), (.val (.int .i64 0) : SV), (.val (.int .i64 0) : SV), (.val (.int .i64 0) : SV), (.val (.int .i64 0) : SV), (.val (.int .i64 0) : SV), (.val (.int .i64 0) : SV)], .row g 79 (talV t')] } a W → I a W := fun t' ht a W rep => by
    refine again (i + 1) hlt (by show z.length - (i + 1) < z.length - i; omega) a W ?_
    simp only [htk, ← ht]
    exact rep
   have tg : ∀ k : Nat, k < 15 → (talV t)[k]? = some (.int .i64 (t.getD k 0)) ∧ ArOk .add .i64 (t.getD k 0) 1 (t.getD k 0 + 1) := fun k hk => by
    refine ⟨talV_get (by omega), ?_⟩
    have : t.getD k 0 ∈ t := by rw [List.getD_eq_getElem?_getD, List.getElem?_eq_getElem (by omega)]; exact List.getElem_mem (by omega)
    have := htv _ this
    exact ArOk.add64 (by omega) (by omega)
   refine ⟨hbz, _, hptr, rfl, rfl, rfl, _, hc.cell (j := 0) rfl, fun hne => ⟨_, haddi, lend_rule fun a W rep => nx t ?_ a W (rep.le (by (simp only [setn, List.nil_append, List.cons_append, leF, leH_nil, leH_cons, leF_nil, lk, scp, scpL, scpO, resF, resH, resO, resV, resVL, nth, Nat.reduceBEq, Nat.reduceLT, decide_true, decide_false, List.length, List.length_cons, List.length_nil, Nat.reduceAdd, Bool.and_self, Bool.and_true, and_true, true_and, numF] <;> try simp)) (by (simp only [setn, List.nil_append, List.cons_append, leF, leH_nil, leH_cons, leF_nil, lk, scp, scpL, scpO, resF, resH, resO, resV, resVL, nth, Nat.reduceBEq, Nat.reduceLT, decide_true, decide_false, List.length, List.length_cons, List.length_nil, Nat.reduceAdd, Bool.and_self, Bool.and_true, and_true, true_and, numF] <;> try simp)))⟩, fun heq => ⟨rfl, rfl, rfl, _, hc.cell (j := 6) rfl, fun hto => ⟨_, haddi, lend_rule fun a W rep => nx t ?_ a W (rep.le (by (simp only [setn, List.nil_append, List.cons_append, leF, leH_nil, leH_cons, leF_nil, lk, scp, scpL, scpO, resF, resH, resO, resV, resVL, nth, Nat.reduceBEq, Nat.reduceLT, decide_true, decide_false, List.length, List.length_cons, List.length_nil, Nat.reduceAdd, Bool.and_self, Bool.and_true, and_true, true_and, numF] <;> try simp)) (by (simp only [setn, List.nil_append, List.cons_append, leF, leH_nil, leH_cons, leF_nil, lk, scp, scpL, scpO, resF, resH, resO, resV, resVL, nth, Nat.reduceBEq, Nat.reduceLT, decide_true, decide_false, List.length, List.length_cons, List.length_nil, Nat.reduceAdd, Bool.and_self, Bool.and_true, and_true, true_and, numF] <;> try simp)))⟩, fun hto => ⟨rfl, rfl, rfl, _, hc.cell (j := 9) rfl, fun hcm => ?_, fun hcm => ?_⟩⟩⟩
   ·unfold talS; rw [if_pos (.inl (by simpa using hne))]
   ·unfold talS; rw [if_pos (.inr (of_decide_eq_true hto))]
   ·have hto := of_decide_eq_false hto
    have heq : x.core = core := by simpa using heq
    obtain ⟨e1, e2⟩ := tg x.lane.toNat (by omega)
    refine ⟨rfl, rfl, rfl, _, hc.cell (j := 3) rfl, ⟨by omega, by omega⟩, _, by rw [Nat.zero_add, Nat.mul_one]; exact e1, _, e2, ⟨by omega, by omega⟩, by rw [show (talV t).length = t.length by simp [talV]]; omega, _, haddi, lend_rule fun a W rep => nx (bumpL t x.lane.toNat) ?_ a W (rep.le (by (simp only [setn, List.nil_append, List.cons_append, leF, leH_nil, leH_cons, leF_nil, lk, scp, scpL, scpO, resF, resH, resO, resV, resVL, nth, Nat.reduceBEq, Nat.reduceLT, decide_true, decide_false, List.length, List.length_cons, List.length_nil, Nat.reduceAdd, Bool.and_self, Bool.and_true, and_true, true_and, numF] <;> try simp)) (by (simp only [setn, List.nil_append, List.cons_append, leF, leH_nil, leH_cons, leF_nil, lk, scp, scpL, scpO, resF, resH, resO, resV, resVL, nth, Nat.reduceBEq, Nat.reduceLT, decide_true, decide_false, List.length, List.length_cons, List.length_nil, Nat.reduceAdd, Bool.and_self, Bool.and_true, and_true, true_and, numF] <;> try simp); exact talV_bump _ _))⟩
    unfold talS; rw [if_neg (by omega), if_pos hcm]
   ·have hto := of_decide_eq_false hto
    have heq : x.core = core := by simpa using heq
    have hcd := hx.2.2 (by omega) hcm
    obtain ⟨e1, e2⟩ := tg (5 + x.code.toNat) (by omega)
    refine ⟨rfl, rfl, rfl, _, hc.cell (j := 10) rfl, ⟨by omega, by omega⟩, _, by rw [Nat.mul_one]; exact e1, _, e2, ⟨by omega, by omega⟩, by rw [show (talV t).length = t.length by simp [talV]]; omega, _, haddi, lend_rule fun a W rep => nx (bumpL t (5 + x.code.toNat)) ?_ a W (rep.le (by (simp only [setn, List.nil_append, List.cons_append, leF, leH_nil, leH_cons, leF_nil, lk, scp, scpL, scpO, resF, resH, resO, resV, resVL, nth, Nat.reduceBEq, Nat.reduceLT, decide_true, decide_false, List.length, List.length_cons, List.length_nil, Nat.reduceAdd, Bool.and_self, Bool.and_true, and_true, true_and, numF] <;> try simp)) (by (simp only [setn, List.nil_append, List.cons_append, leF, leH_nil, leH_cons, leF_nil, lk, scp, scpL, scpO, resF, resH, resO, resV, resVL, nth, Nat.reduceBEq, Nat.reduceLT, decide_true, decide_false, List.length, List.length_cons, List.length_nil, Nat.reduceAdd, Bool.and_self, Bool.and_true, and_true, true_and, numF] <;> try simp); exact talV_bump _ _))⟩
    unfold talS; rw [if_neg (by omega), if_neg (by rw [hcm]; simp)]
  ·have hin : i = z.length := by have := of_decide_eq_false hge; omega
   subst hin
   rw [List.take_of_length_le (by omega)] at htl ⊢
   generalize talL core ls = t at *
   obtain ⟨t0, t1, t2, t3, t4, t5, t6, t7, t8, t9, t10, t11, t12, t13, t14, rfl⟩ : ∃ t0 t1 t2 t3 t4 t5 t6 t7 t8 t9 t10 t11 t12 t13 t14, t = [t0, t1, t2, t3, t4, t5, t6, t7, t8, t9, t10, t11, t12, t13, t14] := by
    match t, htl with
    | [t0, t1, t2, t3, t4, t5, t6, t7, t8, t9, t10, t11, t12, t13, t14], _ => exact ⟨t0, t1, t2, t3, t4, t5, t6, t7, t8, t9, t10, t11, t12, t13, t14, rfl⟩
   refine ⟨_, rfl, _, rfl, _, rfl, _, rfl, _, rfl, _, rfl, _, rfl, _, rfl, _, rfl, _, rfl, _, rfl, _, rfl, _, rfl, _, rfl, _, rfl, ?_⟩
   refine ret_rv (vs := [.agg (talV [t0, t1, t2, t3, t4, t5, t6, t7, t8, t9, t10, t11, t12, t13, t14]).toArray, .int .i64 0]) r33 rfl rfl fun W hW => hR2 _ (ov.heap hW).fresh'
end Go.Proofs.Ytnedgfkgmdoahaa
