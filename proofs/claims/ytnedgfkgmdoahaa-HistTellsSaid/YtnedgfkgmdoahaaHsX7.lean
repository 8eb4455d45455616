/- shuntref12.Tally. -/
import Derived.Test.YtnedgfkgmdoahaaHsX6
import Derived.Test.YtnedgfkgmdoahaaHsPlain
import Derived.Test.YtnedgfkgmdoahaaHsCodeT
set_option linter.unusedSimpArgs false
set_option linter.unusedVariables false
set_option linter.unnecessarySimpa false
namespace Go.Proofs.Ytnedgfkgmdoahaa
open Go Go.Sx Go.Hs
set_option maxRecDepth 100000
def talV (t : List Int) : List Value := t.map fun n => .int .i64 n
theorem talV_set (t : List Int) (i : Nat) (v : Int) : setn (talV t) i (.int .i64 v) = talV (t.set i v) := by unfold talV; rw [setn_eq, List.map_set]
theorem talV_bump (t : List Int) (i : Nat) : setn (talV t) i (.int .i64 (t[i]?.getD 0 + 1)) = talV (bumpL t i) := by rw [talV_set]; unfold bumpL; rw [List.getD_eq_getElem?_getD]
theorem talV_get {t : List Int} {i : Nat} (h : i < t.length) : (talV t)[i]? = some (.int .i64 (t.getD i 0)) := by
 unfold talV; rw [List.getElem?_map, List.getD_eq_getElem?_getD, List.getElem?_eq_getElem h]; rfl
theorem reftally37 (A : Option Addr) (c : Nat) (h : List Ev) (core : Int) (w : World) (hA : RowAt w A (cellsE h)) (hl : h.length ≤ 1000) (hm : mayL h = true) :
  CallsV Try.prog 37 [.slice A h.length c, .int .i64 core] w fun v w' => v = .agg (talV (talL core (splitR h))).toArray ∧ Fresh w w' := by
 refine calls_go (keep := K37) (nt := 64) (svs := [.val (.slice A h.length c), .val (.int .i64 core)]) Try.func37 x37 n37 (by simp) (by simp [IsL, Is]) fun R hR => ?_
 (refine Y_go 600 ?_; dsimp only [X37, numF, Nat.reduceAdd, zq9r, zq9q, Y_k, zq5e, List.length_nil, List.map, zq6q, List.nil_append, YK, zq8t, zq9i, normF, zq6n, Nat.reduceBEq, zq6l, zq6k, zq6m, zq86, zq8c, zq87, zq9y, t37n9, T37n9, zq4u, zq8o, zq9j])
 intro g1
 refine call_base (vs := [.slice A h.length c]) rfl (R := fun W v w' => ∃ (z : List (At × Hd)) (B D : Option Addr) (bc dc : Nat), z.map (·.1) = splitR h ∧ v = .tuple #[.slice B z.length bc, .slice D z.length dc] ∧ World.ownsB w' W.heap.size 90 11 (.slice B z.length bc) z.length (cellsTs z) ∧ Fresh W w') (fun W hW => (refsplit35 A c h W (hA.keep hW.fresh') hl hm).mono fun v w' ⟨z, B, D, bc, dc, h1, h2, h3, h4, h5, h6, _⟩ => ⟨z, B, D, bc, dc, h1, h2, h3, h6⟩) (fun _ _ _ hr => by obtain ⟨_, _, _, _, _, _, _, _, hf⟩ := hr; exact hf) fun W v W' hW hr ov => ?_
 obtain ⟨z, B, D, bc, dc, hz, hv, ho, hf⟩ := hr
 refine ⟨.tup [.val (.slice B z.length bc), .val (.slice D z.length dc)], by rw [hv]; simp [Is, IsL], ?_⟩
 have hst : ∀ g ∈ fps [SO.cells g1 79 [(.val (.int .i64 0) : SV), (.val (.int .i64 0) : SV), (.val (.int .i64 0) : SV), (.val (.int .i64 0) : SV), (.val (.int .i64 0) : SV), (.val (.int .i64 0) : SV), (.val (.int .i64 0) : SV), (.val (.int .i64 0) : SV), (.val (.int .i64 0) : SV), (.val (.int .i64 0) : SV), (.val (.int .i64 0) : SV), (.val (.int .i64 0) : SV), (.val (.int .i64 0) : SV), (.val (.int .i64 0) : SV), (.val (.int .i64 0) : SV)]], g < W.heap.size := fun g hg => hW.fps_lt hg
 simp only [putF] at ov ⊢
 generalize fps [SO.cells g1 79 [(.val (.int .i64 0) : SV), (.val (.int .i64 0) : SV), (.val (.int .i64 0) : SV), (.val (.int .i64 0) : SV), (.val (.int .i64 0) : SV), (.val (.int .i64 0) : SV), (.val (.int .i64 0) : SV), (.val (.int .i64 0) : SV), (.val (.int .i64 0) : SV), (.val (.int .i64 0) : SV), (.val (.int .i64 0) : SV), (.val (.int .i64 0) : SV), (.val (.int .i64 0) : SV), (.val (.int .i64 0) : SV), (.val (.int .i64 0) : SV)]] = st at hst ov ⊢
 have hzE : RowE ⟨W', W'.heap.size, st, 64, []⟩ B (cellsTs z) := ownsB_rowE ho hst 64 []
 (refine Y_go 600 ?_; dsimp only [Y_k, zq4u, zq8o, zq6n, Nat.reduceBEq, zq6k, YK, zq8t, zq5j, zq2f, nth, zq2e, zq6l, zq9i, normF, zq6m, zq86, zq87, zq8c, zq9y, t37n8, T37n8, zq9r, zq9q, zq5g, List.map, zq6q, zq22, zq25, zq5e, List.length_cons, List.length_nil, Nat.reduceAdd, List.cons_append, List.nil_append, zq5d, zq7t, zq8l, zq73, zq8m, zq8k, zq0a, zq1x, zq1t, dropL, takeL, zq1r, splice, setn, zq8s, t37n7, T37n7, zq8p, zq9t, zq9v])
 have hzl : z.length ≤ 1000 := by
  have := congrArg List.length hz
  have h2 := begs_len h h.length
  unfold splitR at this
  simp only [List.length_map] at this
  omega
 obtain ⟨s0, hs0⟩ : ∃ s0, sp h h.length = some s0 := by
  have := hm
  rw [mayL_sp, Option.isSome_iff_exists] at this; exact this
 have hso : splitR h = s0.out := (splitL_ref (h := h) (by unfold splitL; rw [hs0]; rfl)).symm
 have hrng : ∀ x ∈ z.map (·.1), (1 ≤ x.lane ∧ x.lane ≤ 4) ∧ CodeOk x := fun x hx => by
  rw [hz, hso] at hx
  have := (sp_ok hs0).rng x hx
  exact ⟨by omega, sp_code hs0 x hx⟩
 rw [← hz] at hR
 generalize hzz : z.map (·.1) = ls at *
 have hll : ls.length = z.length := by rw [← hzz, List.length_map]
 intro g
 refine loop_go (α := Nat) (fun i => i ≤ z.length) (fun _ => ⟨W', W'.heap.size, st, 64, []⟩)
  (fun i => { F := [(1, .val (.int .i64 core)), (4, .ptr 0 0), (5, .val (.slice B z.length bc)), (7, .ptr 1 0), (8, .val (.int .i64 i))], H := [.cells g1 79 [(.val (.int .i64 0) : SV), (.val (.int .i64 0) : SV), (.val (.int .i64 0) : SV), (.val (.int .i64 0) : SV), (.val (.int .i64 0) : SV), (.val (.int .i64 0) : SV), (.val (.int .i64 0) : SV), (.val (.int .i64 0) : SV), (.val (.int .i64 0) : SV), (.val (.int .i64 0) : SV), (.val (.int .i64 0) : SV), (.val (.int .i64 0) : SV), (.val (.int .i64 0) : SV), (.val (.int .i64 0) : SV), (.val (.int .i64 0) : SV)], .row g 79 (talV (talL core (ls.take i)))] }) (fun i => z.length - i) (fun _ => rfl) ?start ?round
 case start =>
  intro a W rep
  exact ⟨0, Nat.zero_le _, (rep.torow 1 (g := g) (t := 79) (xs := talV tal0) rfl rfl).le (by (simp only [setn, List.nil_append, List.cons_append, leF, leH_nil, leH_cons, leF_nil, lk, scp, scpL, scpO, resF, resH, resO, resV, resVL, nth, Nat.reduceBEq, Nat.reduceLT, decide_true, decide_false, List.length, List.length_cons, List.length_nil, Nat.reduceAdd, Bool.and_self, Bool.and_true, and_true, true_and, numF] <;> try simp)) (by (simp only [setn, List.nil_append, List.cons_append, leF, leH_nil, leH_cons, leF_nil, lk, scp, scpL, scpO, resF, resH, resO, resV, resVL, nth, Nat.reduceBEq, Nat.reduceLT, decide_true, decide_false, List.length, List.length_cons, List.length_nil, Nat.reduceAdd, Bool.and_self, Bool.and_true, and_true, true_and, numF] <;> try simp); rfl)⟩
 case round =>
  intro i hi I again
  have hi : i ≤ z.length := hi
  obtain ⟨htl, htv⟩ := talTo_ok core ls i (by omega)
  (refine Y_go 600 ?_; dsimp only [zq9y, t37n5, T37n5, zq9r, zq9q, Y_k, zq4u, zq8o, zq6n, Nat.reduceBEq, zq6l, zq6k, YK, zq8t, zq55, zq0r, zq50, zq04, zq92, zq9b, zq0i, zq9e, zq9i, normF, zq6m, zq86, zq87, zq8c, zq9s, zq6h, zq8x, YC, zq9p, t37n4, T37n4, zq9t, zq58, zq06, zq0w, zq5a, zq16, Nat.add_zero, zq5c, zq1p, zq1c, List.nil_append, zq1b, zq18, zq9d, Y_gk, zq6e, YS, zq6a, zq4v, zq8p, zq6o, zq0b, zq89, zq6f, zq9u, popTo, zq6i, YP, t37n3, T37n3, zq4w, zq6q, zq0e, zqa2, YR, zq6c, zq0c, t37n2, T37n2, zq1d, zq8a, t37n0, T37n0, zq14, zq59, zq10, zq1o, nth, zq1l, zq5d, zq7u, zq73, zq0a, zq1x, zq1u, denL, den, zq1s, splice, setn, zq8s, zqa1, t37n1, T37n1, Nat.reduceAdd, t37n6, T37n6, List.cons_append, zq17, zq7t, List.length_cons, List.length_nil, zq8l, zq8m, zq8k, zq1t, dropL, takeL, zq1r, zq9x])
  refine ⟨fun hlt => ?_, fun hge => ?_⟩
  ·have hlt : i < z.length := by have := of_decide_eq_true hlt; omega
   have hzi : z[i]? = some z[i] := List.getElem?_eq_getElem hlt
   generalize hzp : z[i] = pz at hzi
   have clB : ∀ k v, (cellsT pz.1 pz.2)[k]? = some v → CellAt ⟨W', W'.heap.size, st, 64, []⟩ B ((i : Int).toNat * 11 + k) v := by
    intro k v hk
    rw [Int.toNat_natCast]
    exact hzE.cell (by rw [cellsTs_get z hlt (List.getElem?_eq_some_iff.1 hk).1, hzp]; exact hk)
   have hBs : B.isSome = true := RowE.isSome hzE (j := i * 11) (by rw [cellsTs_len]; omega)
   have hbz : 0 ≤ (i : Int) ∧ (i : Int) < (z.length : Int) ∧ B.isSome = true := ⟨by omega, by omega, hBs⟩
   have haddi : ArOk .add .i64 (i : Int) 1 ((i + 1 : Nat) : Int) := ArOk.to (by omega) (by omega) (by omega)
   have hx := hrng pz.1 (by rw [← hzz]; exact List.mem_map_of_mem (f := fun x : At × Hd => x.1) (List.mem_of_getElem? hzi))
   have htk : talL core (ls.take (i + 1)) = talS core (talL core (ls.take i)) pz.1 := by
    rw [List.take_add_one, ← hzz, List.getElem?_map, hzi]
    exact talL_snoc _ _ _
   obtain ⟨x, hd⟩ := pz
   simp only at clB hx htk
   generalize talL core (ls.take i) = t at *
   have nx : ∀ t', t' = talS core t x → ∀ (a : Act) (W : World), Rep ⟨W', W'.heap.size, st, 64, []⟩ { F := [(1, .val (.int .i64 core)), (4, .ptr 0 0), (5, .val (.slice B z.length bc)), (7, .ptr 1 0), (8, .val (.int .i64 ((i + 1 : Nat) : Int)))], H := [.cells g1 79 [(.val (.int .i64 0) : SV), (.val (.int .i64 0) : SV), (.val (.int .i64 0) : SV), (.val (.int .i64 0) : SV), (.val (.int .i64 0) : SV), (.val (.int .i64 0) : SV), (.val (.int .i64 0) : SV), (.val (.int .i64 0) : SV), (.val (.int .i64 0) : SV), (.val (.int .i64 0) : SV), (.val (.int .i64 0) : SV), (.val (.int .i64 0) : SV), (.val (.int .i64 0) : SV), (.val (.int .i64 0) : SV), (.val (.int .i64 0) : SV)], .row g 79 (talV t')] } a W → I a W := fun t' ht a W rep => by
    refine again (i + 1) hlt (by show z.length - (i + 1) < z.length - i; omega) a W ?_
    simp only [htk, ← ht]
    exact rep
   have tg : ∀ k : Nat, k < 15 → (talV t)[k]? = some (.int .i64 (t.getD k 0)) ∧ ArOk .add .i64 (t.getD k 0) 1 (t.getD k 0 + 1) := fun k hk => by
    refine ⟨talV_get (by omega), ?_⟩
    have : t.getD k 0 ∈ t := by rw [List.getD_eq_getElem?_getD, List.getElem?_eq_getElem (by omega)]; exact List.getElem_mem (by omega)
    have := htv _ this
    exact ArOk.add64 (by omega) (by omega)
   refine ⟨hbz, hBs, _, clB 0 _ rfl, fun hne => ⟨_, haddi, lend_rule fun a W rep => nx t ?_ a W (rep.le (by (simp only [setn, List.nil_append, List.cons_append, leF, leH_nil, leH_cons, leF_nil, lk, scp, scpL, scpO, resF, resH, resO, resV, resVL, nth, Nat.reduceBEq, Nat.reduceLT, decide_true, decide_false, List.length, List.length_cons, List.length_nil, Nat.reduceAdd, Bool.and_self, Bool.and_true, and_true, true_and, numF] <;> try simp)) (by (simp only [setn, List.nil_append, List.cons_append, leF, leH_nil, leH_cons, leF_nil, lk, scp, scpL, scpO, resF, resH, resO, resV, resVL, nth, Nat.reduceBEq, Nat.reduceLT, decide_true, decide_false, List.length, List.length_cons, List.length_nil, Nat.reduceAdd, Bool.and_self, Bool.and_true, and_true, true_and, numF] <;> try simp)))⟩, fun heq => ⟨hbz, hBs, _, clB 6 _ rfl, fun hto => ⟨_, haddi, lend_rule fun a W rep => nx t ?_ a W (rep.le (by (simp only [setn, List.nil_append, List.cons_append, leF, leH_nil, leH_cons, leF_nil, lk, scp, scpL, scpO, resF, resH, resO, resV, resVL, nth, Nat.reduceBEq, Nat.reduceLT, decide_true, decide_false, List.length, List.length_cons, List.length_nil, Nat.reduceAdd, Bool.and_self, Bool.and_true, and_true, true_and, numF] <;> try simp)) (by (simp only [setn, List.nil_append, List.cons_append, leF, leH_nil, leH_cons, leF_nil, lk, scp, scpL, scpO, resF, resH, resO, resV, resVL, nth, Nat.reduceBEq, Nat.reduceLT, decide_true, decide_false, List.length, List.length_cons, List.length_nil, Nat.reduceAdd, Bool.and_self, Bool.and_true, and_true, true_and, numF] <;> try simp)))⟩, fun hto => ⟨hbz, hBs, _, clB 9 _ rfl, fun hcm => ?_, fun hcm => ?_⟩⟩⟩
   ·unfold talS; rw [if_pos (.inl (by simpa using hne))]
   ·unfold talS; rw [if_pos (.inr (of_decide_eq_true hto))]
   ·have hto := of_decide_eq_false hto
    have heq : x.core = core := by simpa using heq
    obtain ⟨e1, e2⟩ := tg x.lane.toNat (by omega)
    refine ⟨hbz, hBs, _, clB 3 _ rfl, ⟨by omega, by omega⟩, _, by rw [Nat.zero_add, Nat.mul_one]; exact e1, _, e2, ⟨by omega, by omega⟩, by rw [show (talV t).length = t.length by simp [talV]]; omega, _, haddi, lend_rule fun a W rep => nx (bumpL t x.lane.toNat) ?_ a W (rep.le (by (simp only [setn, List.nil_append, List.cons_append, leF, leH_nil, leH_cons, leF_nil, lk, scp, scpL, scpO, resF, resH, resO, resV, resVL, nth, Nat.reduceBEq, Nat.reduceLT, decide_true, decide_false, List.length, List.length_cons, List.length_nil, Nat.reduceAdd, Bool.and_self, Bool.and_true, and_true, true_and, numF] <;> try simp)) (by (simp only [setn, List.nil_append, List.cons_append, leF, leH_nil, leH_cons, leF_nil, lk, scp, scpL, scpO, resF, resH, resO, resV, resVL, nth, Nat.reduceBEq, Nat.reduceLT, decide_true, decide_false, List.length, List.length_cons, List.length_nil, Nat.reduceAdd, Bool.and_self, Bool.and_true, and_true, true_and, numF] <;> try simp); exact talV_bump _ _))⟩
    unfold talS; rw [if_neg (by omega), if_pos hcm]
   ·have hto := of_decide_eq_false hto
    have heq : x.core = core := by simpa using heq
    have hcd := hx.2.2 (by omega) hcm
    obtain ⟨e1, e2⟩ := tg (5 + x.code.toNat) (by omega)
    refine ⟨hbz, hBs, _, clB 10 _ rfl, ⟨by omega, by omega⟩, _, by rw [Nat.mul_one]; exact e1, _, e2, ⟨by omega, by omega⟩, by rw [show (talV t).length = t.length by simp [talV]]; omega, _, haddi, lend_rule fun a W rep => nx (bumpL t (5 + x.code.toNat)) ?_ a W (rep.le (by (simp only [setn, List.nil_append, List.cons_append, leF, leH_nil, leH_cons, leF_nil, lk, scp, scpL, scpO, resF, resH, resO, resV, resVL, nth, Nat.reduceBEq, Nat.reduceLT, decide_true, decide_false, List.length, List.length_cons, List.length_nil, Nat.reduceAdd, Bool.and_self, Bool.and_true, and_true, true_and, numF] <;> try simp)) (by (simp only [setn, List.nil_append, List.cons_append, leF, leH_nil, leH_cons, leF_nil, lk, scp, scpL, scpO, resF, resH, resO, resV, resVL, nth, Nat.reduceBEq, Nat.reduceLT, decide_true, decide_false, List.length, List.length_cons, List.length_nil, Nat.reduceAdd, Bool.and_self, Bool.and_true, and_true, true_and, numF] <;> try simp); exact talV_bump _ _))⟩
    unfold talS; rw [if_neg (by omega), if_neg (by rw [hcm]; simp)]
  ·have hin : i = z.length := by have := of_decide_eq_false hge; omega
   subst hin
   rw [List.take_of_length_le (by omega)] at htl ⊢
   generalize talL core ls = t at *
   obtain ⟨t0, t1, t2, t3, t4, t5, t6, t7, t8, t9, t10, t11, t12, t13, t14, rfl⟩ : ∃ t0 t1 t2 t3 t4 t5 t6 t7 t8 t9 t10 t11 t12 t13 t14, t = [t0, t1, t2, t3, t4, t5, t6, t7, t8, t9, t10, t11, t12, t13, t14] := by
    match t, htl with
    | [t0, t1, t2, t3, t4, t5, t6, t7, t8, t9, t10, t11, t12, t13, t14], _ => exact ⟨t0, t1, t2, t3, t4, t5, t6, t7, t8, t9, t10, t11, t12, t13, t14, rfl⟩
   refine ⟨_, rfl, _, rfl, _, rfl, _, rfl, _, rfl, _, rfl, _, rfl, _, rfl, _, rfl, _, rfl, _, rfl, _, rfl, _, rfl, _, rfl, _, rfl, ?_⟩
   refine ret_rv (vs := [.agg (talV [t0, t1, t2, t3, t4, t5, t6, t7, t8, t9, t10, t11, t12, t13, t14]).toArray]) r37 rfl rfl fun W hW => hR _ _ ⟨rfl, (ov.heap hW).fresh'⟩
end Go.Proofs.Ytnedgfkgmdoahaa
