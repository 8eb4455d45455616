/- clocks.Races. -/
import Derived.Test.YtnedgfkgmdoahaaClkLaw3
import Derived.Test.YtnedgfkgmdoahaaClkCode
import Derived.Test.YtnedgfkgmdoahaaSxStill
set_option linter.unusedSimpArgs false
set_option linter.unusedVariables false
set_option linter.unnecessarySimpa false
namespace Go.Proofs.Ytnedgfkgmdoahaa
open Go Go.Sx Go.Clk
set_option maxRecDepth 100000
def pV (p : Nat × Nat) : List Value := [.int .i64 p.1, .int .i64 p.2]
def cellsP (l : List (Nat × Nat)) : List Value := l.flatMap pV
theorem cellsP_len (l : List (Nat × Nat)) : (cellsP l).length = l.length * 2 := flat_len (f := pV) (sz := 2) (fun _ => rfl) l
theorem cellsP_get (l : List (Nat × Nat)) {i k : Nat} (hi : i < l.length) (hk : k < 2) : (cellsP l)[i * 2 + k]? = (pV l[i])[k]? := flat_get (f := pV) (sz := 2) (fun _ => rfl) l hi hk
theorem cellsP_app (l m : List (Nat × Nat)) : cellsP (l ++ m) = cellsP l ++ cellsP m := by simp [cellsP]
def raceB (l : List Sy) (i k : Nat) : Bool :=
 decide ((at' l i).kind ≤ 2) && decide ((at' l k).kind ≤ 2) && ((at' l i).addr == (at' l k).addr) && !((at' l i).core == (at' l k).core) && !((at' l i).kind == 1 && (at' l k).kind == 1) && !(ahB (clks l l.length) i k)
def rowR (l : List Sy) (i m : Nat) : List (Nat × Nat) := ((List.range m).filter fun k => decide (i < k) && raceB l i k).map fun k => (i, k)
def racesTo (l : List Sy) (n i : Nat) : List (Nat × Nat) := (List.range i).flatMap fun i => rowR l i n
def racesL (l : List Sy) : List (Nat × Nat) := racesTo l l.length l.length
theorem rowR_succ (l : List Sy) (i m : Nat) : rowR l i (m + 1) = rowR l i m ++ (if decide (i < m) && raceB l i m then [(i, m)] else []) := by
 unfold rowR
 rw [List.range_succ, List.filter_append, List.map_append]
 congr 1
 simp only [List.filter_cons, List.filter_nil]
 split <;> simp
theorem rowR_self (l : List Sy) (i : Nat) : ∀ m, m ≤ i + 1 → rowR l i m = []
 | 0, _ => rfl
 | m + 1, h => by
  rw [rowR_succ, rowR_self l i m (by omega), if_neg]
  ·rfl
  ·simp; omega
theorem racesTo_succ (l : List Sy) (n i : Nat) : racesTo l n (i + 1) = racesTo l n i ++ rowR l i n := by simp [racesTo, List.range_succ]
theorem rowR_len (l : List Sy) (i m : Nat) : (rowR l i m).length ≤ m := by
 unfold rowR
 rw [List.length_map]
 exact Nat.le_trans (List.length_filter_le _ _) (by simp)
theorem racesTo_len (l : List Sy) (n : Nat) : ∀ i, (racesTo l n i).length ≤ i * n
 | 0 => by simp [racesTo]
 | i + 1 => by
  rw [racesTo_succ, List.length_append, Nat.add_mul]
  have := racesTo_len l n i; have := rowR_len l i n; omega
theorem at_get (l : List Sy) {i : Nat} (h : i < l.length) : at' l i = l[i] := by unfold at'; rw [List.getD_eq_getElem?_getD, List.getElem?_eq_getElem h]; rfl
section
variable {l : List Sy} {i k : Nat}
theorem rb1 (h : decide ((at' l i).kind ≤ 2) = false) : raceB l i k = false := by simp [raceB, h]
theorem rb2 (h : (!decide ((at' l k).kind ≤ 2)) = true) : raceB l i k = false := by
 have h : decide ((at' l k).kind ≤ 2) = false := by simpa using h
 simp [raceB, h]
theorem rb3 (h : ((at' l i).addr != (at' l k).addr) = true) : raceB l i k = false := by
 have h : ((at' l i).addr == (at' l k).addr) = false := by simpa using h
 simp only [raceB, h]; simp
theorem rb4 (h : ((at' l i).core == (at' l k).core) = true) : raceB l i k = false := by simp only [raceB, h]; simp
theorem rb5 (h5 : ((at' l i).kind == 1) = true) (h6 : ((at' l k).kind == 1) = true) : raceB l i k = false := by simp only [raceB, h5, h6]; simp
theorem rb6 (h : ahB (clks l l.length) i k = true) : raceB l i k = false := by simp only [raceB, h]; simp
theorem rb7 (h1 : decide ((at' l i).kind ≤ 2) = true) (h2 : (!decide ((at' l k).kind ≤ 2)) = false) (h3 : ((at' l i).addr != (at' l k).addr) = false) (h4 : ((at' l i).core == (at' l k).core) = false) (h5 : ((at' l i).kind == 1 && (at' l k).kind == 1) = false) (h6 : ahB (clks l l.length) i k = false) : raceB l i k = true := by
 have h2 : decide ((at' l k).kind ≤ 2) = true := by simpa using h2
 have h3 : ((at' l i).addr == (at' l k).addr) = true := by simpa using h3
 simp only [raceB, h1, h2, h3, h4, h5, h6]; rfl
end
structure OI where
 i : Nat
 A : Option Addr
 c : Nat
set_option maxHeartbeats 4000000 in
theorem races21 (A : Option Addr) (c : Nat) (l : List Sy) (w : World) (hA : RowAt w A (cellsS l)) :
  CallsV Try.prog 21 [.slice A l.length c] w fun v w' => Fresh w w' ∧
   ((okLs l ∧ ∃ s, v = .tuple #[s, .int .i64 0] ∧ World.ownsB w' w.heap.size 58 2 s (racesL l).length (cellsP (racesL l))) ∨ (¬ okLs l ∧ v = .tuple #[.slice none 0 0, .int .i64 260])) := by
 refine calls_goM (keep := K21) (nt := 80) (svs := [.val (.slice A l.length c)]) Try.func21 x21 n21 (by simp) (by simp [IsL, Is]) fun R hR => ?_
 (refine Y_goM 600 ?_; dsimp only [X21, numF, Nat.reduceAdd, zq9r, zq9q, Y_k, zq5f, zq8o, zq6n, Nat.reduceBEq, zq6k, zq7u, zq77, zq0a, zq1z, List.length_nil, List.nil_append, YK, zq8t, zq4u, zq8p, zq6u, zq6q, zq9i, normF, zq6l, zq6m, zq86, zq87, zq8c, zq9y, t21n11, T21n11, zq9z])
 intro g0
 refine scp_rule (fun _ _ _ h => h) ?_
 (refine Y_goM 600 ?_; dsimp only [zq9r, zq9q, Y_k, zq5c, zq8o, zq6n, Nat.reduceBEq, zq6l, zq6k, zq1o, nth, zq1k, List.length_cons, List.length_nil, Nat.reduceAdd, dropL, takeL, zq19, zq18, YK, zq8t, zq9j])
 refine clkCall (l := l) (A := A) (c := c) rfl rfl (fun W hW => hA.keep hW.fresh') (fun ho B cc => ?_) (fun ho => ?_)
 rotate_left
 ·(refine Y_goM 600 ?_; dsimp only [zq8t, Y_k, zq4u, zq8o, zq6n, Nat.reduceBEq, zq6k, YK, zq5j, zq2f, nth, zq2e, zq6l, zq5e, List.length_cons, List.length_nil, Nat.reduceAdd, List.map, zq6u, List.cons_append, List.nil_append, zq5d, zq7u, zq77, zq0a, zq1x, zq1t, dropL, takeL, zq1r, splice, setn, zq8s, zq9i, normF, zq6m, zq86, zq87, zq8c, zq9y, t21n10, T21n10, zq9r, zq9q, zq50, zq8p, zq6q, zq04, zq92, zq9b, zq0i, zq9d, zq9s, zq6h, zq8x, YC, t21n0, T21n0, zq89, zq9x, zq9p, t21n9, T21n9, zq8a, zqa0, t21n8, T21n8, zq5c, zq1o, zq1k, zq19, zq18, zq55, zq0r, zq9j])
  intro g1
  refine ⟨fun _ => ?_, fun h => absurd h (by decide)⟩
  refine ret_none (vs := [.slice none 0 0, .int .i64 260]) r21 rfl rfl fun W hW => hR _ _ ⟨hW.fresh', .inr ⟨ho, rfl⟩⟩
 (refine Y_goM 600 ?_; dsimp only [List.length_cons, List.length_nil, Nat.reduceAdd, zq8t, List.cons_append, List.nil_append, Y_k, zq4u, zq8o, zq6n, Nat.reduceBEq, zq6k, YK, zq5j, zq2f, nth, zq2e, zq6l, zq5e, List.map, zq6u, zq5d, zq81, zq7n, zq0a, zq1x, zq1t, dropL, takeL, zq1r, splice, setn, zq8s, zq9i, normF, zq6m, zq86, zq87, zq8c, zq9y, t21n10, T21n10, zq9r, zq9q, zq50, zq8p, zq6q, zq04, zq92, zq9b, zq0i, zq9d, zq9s, zq6h, zq8x, YC, t21n0, T21n0, zq89, zq9x, zq9p, t21n9, T21n9, zq8a, zqa0, t21n8, T21n8, zq5c, zq1o, zq1k, zq19, zq18, zq55, zq0r, zq9j])
 intro g1
 refine ⟨fun h => absurd h (by decide), fun _ => ?_⟩
 intro g2
 refine call_rule (vs := [.int .i64 l.length]) rfl (R := fun W v W' => ∃ g, v = .func (.func 68) #[] #[.pointer (some ⟨g, 0, none⟩)] ∧ (W.heap.size ≤ g ∧ g < W'.heap.size) ∧ W'.heap[g]? = some (.cells #[.int .i64 l.length] 3 (0, 0)) ∧ Fresh W W') (fun W hW => pairs52 _ W) fun W v W' hW ⟨g, hv, hg, hgc, hf⟩ => ?_
 refine ⟨.fn (.func 68) [] [.ptr 4 0], [.cells g0 25 [.val (.slice A l.length c)], .own 56 0 4 B l.length cc (cellsC (clks l l.length)), .cells g1 34 [.own 1 0], .cells g2 40 [.val (.slice none 0 0)], .cells g 3 [.val (.int .i64 l.length)]], ?_, ?_, ?_, ?_⟩
 ·rw [hv]; simp [Is, IsL, blk, nth]
 ·exact HExt.push _ _
 ·refine hW.pushG (row := none) hf.size hf.os hf.tape hf.output (fun j hj _ => hf.block j hj) (fun _ e => by cases e) (fun g' hg' => ?_) ⟨_, hgc, by simp [IsL, Is]⟩
  simp [SO.fp] at hg'; subst hg'
  exact ⟨.inr hg.1, hg.2⟩
 (refine Y_goM 600 ?_; dsimp only [zq8t, zq9i, normF, zq6n, Nat.reduceBEq, zq6l, zq6k, zq6m, zq86, zq8j, zq8a, zq8c, zq87, zq9y, t21n6, T21n6, zq9t, zq9w])
 refine rng_rule rfl rfl (gf := 68) (caps := [.pointer (some ⟨g, 0, none⟩)]) rfl rfl ?_
 intro D lo rec hrec R' hend hjump W1 hW1
 refine calls_in (keep := K68) (nt := 22) (E := ⟨w, w.heap.size, [], 80, []⟩) (svs := [.val (.func (.yield lo) #[] #[]), .ptr 4 0]) Try.func68 x68 n68 (by simp) hW1 (by simp [IsL, Is, blk, nth]) ?_
 (refine Y_go 600 ?_; dsimp only [X68, numF, Nat.reduceAdd, List.cons_append, List.nil_append, zq9r, zq9q, Y_k, zq5c, zq8o, zq6n, Nat.reduceBEq, zq6l, zq6k, zq1o, nth, zq1k, List.length_cons, List.length_nil, dropL, takeL, zq19, zq18, YK, zq8t, zq4u, zq8p, zq6q, zq9i, normF, zq6m, zq86, zq87, zq8c, zq9t, zq9v])
 have hn : l.length ≤ 400 := ho.1
 refine loop_go (α := OI) (fun x => x.i ≤ l.length) (fun _ => ⟨w, w.heap.size, [], 22, []⟩)
   (fun x => { F := [(0, .val (.func (.yield lo) #[] #[])), (1, .ptr 4 0), (5, .val (.int .i64 l.length)), (6, .val (.int .i64 x.i))], H := [.cells g0 25 [.val (.slice A l.length c)], .own 56 0 4 B l.length cc (cellsC (clks l l.length)), .cells g1 34 [.own 1 0], .cells g2 40 [.own 7 0], .cells g 3 [.val (.int .i64 l.length)], .obj D (.deferred (some [])), .obj lo (.loop rec), .own 58 0 2 x.A (racesTo l l.length x.i).length x.c (cellsP (racesTo l l.length x.i))] }) (fun x => l.length - x.i) (fun _ => rfl) ?start ?round
 case start =>
  intro a W rep
  refine ⟨⟨0, none, 0⟩, Nat.zero_le _, (rep.adoptC 3 58 2 rfl).le ?_ ?_⟩ <;> (simp only [setn, List.nil_append, List.cons_append, leF, leH_nil, leH_cons, leF_nil, lk, scp, scpL, scpO, resF, resH, resO, resV, resVL, nth, Nat.reduceBEq, Nat.reduceLT, decide_true, decide_false, List.length, List.length_cons, List.length_nil, Nat.reduceAdd, Bool.and_self, Bool.and_true, and_true, true_and, numF] <;> try simp) <;> simp [racesTo, cellsP]
 case round =>
  rintro ⟨i, A', c'⟩ hi I hI
  have hi : i ≤ l.length := hi
  (refine Y_go 600 ?_; dsimp only [zq9y, t68n6, T68n6, zq9r, zq9q, Y_k, zq50, zq8o, zq6n, Nat.reduceBEq, zq6l, zq6k, zq04, zq92, zq9b, zq0i, zq9e, YK, zq8t, zq9i, normF, zq6m, zq86, zq87, zq8c, t68n5, T68n5, zq9s, zq6h, zq8x, YC, zq9p, t68n4, T68n4, zq9t, zq4u, zq89, t68n3, T68n3, zq4w, zq8p, zq6q, zq0e, zq9v, zq9u, popTo, zq6i, YP, zqa3])
  refine ⟨fun h1 => ?_, fun h1 => ?_⟩
  rotate_left
  ·have hil : i = l.length := by have := of_decide_eq_false h1; omega
   subst hil
   refine end_rule (vs := []) r68 rfl rfl fun W hW => ?_
   refine hend _ _ W ?_ (extB_spec ?_) (HeapOk.env (E := ⟨w, w.heap.size, [], 22, []⟩) (E' := ⟨w, w.heap.size, [], 80, []⟩) rfl rfl rfl hW) ?_
   ·rfl
   ·simp [extB, SO.blk, bump]
   ·(refine Y_goM 600 ?_; dsimp only [List.length_cons, List.length_nil, Nat.reduceAdd, setn, zqa1, zq9y, t21n7, T21n7, zq9r, zq9q, Y_k, zq5c, zq8o, zq6n, Nat.reduceBEq, zq6l, zq6k, zq1o, nth, zq1k, dropL, takeL, zq19, zq18, YK, zq8t, zq4u, zq8p, zq6q, zq9i, normF, zq6m, zq86, zq8j, zq8a, zq8c, zq87, zq8f, zq9x])
    refine ret_mark (vs := [.slice A' (racesL l).length c', .int .i64 0]) 5 r21 rfl rfl rfl fun W hW => hR _ _ ⟨hW.fresh', .inl ⟨ho, _, rfl, hW.owns (i := 7) rfl⟩⟩
  ·have hlt : i < l.length := by have := of_decide_eq_true h1; omega
   refine ⟨_, .add64 (by omega) (by omega), ?_⟩
   refine loop_go (α := OI) (fun x => i + 1 ≤ x.i ∧ x.i ≤ l.length) (fun _ => ⟨w, w.heap.size, [], 22, []⟩)
    (fun x => { F := [(0, .val (.func (.yield lo) #[] #[])), (1, .ptr 4 0), (3, .val (.int .i64 i)), (4, .val (.int .i64 x.i)), (5, .val (.int .i64 l.length)), (6, .val (.int .i64 i))], H := [.cells g0 25 [.val (.slice A l.length c)], .own 56 0 4 B l.length cc (cellsC (clks l l.length)), .cells g1 34 [.own 1 0], .cells g2 40 [.own 7 0], .cells g 3 [.val (.int .i64 l.length)], .obj D (.deferred (some [])), .obj lo (.loop rec), .own 58 0 2 x.A (racesTo l l.length i ++ rowR l i x.i).length x.c (cellsP (racesTo l l.length i ++ rowR l i x.i))] }) (fun x => l.length - x.i) (fun _ => rfl) ?start2 ?round2
   case start2 =>
    intro a W rep
    refine ⟨⟨i + 1, A', c'⟩, ⟨Nat.le_refl _, hlt⟩, rep.le ?_ ?_⟩ <;> (simp only [setn, List.nil_append, List.cons_append, leF, leH_nil, leH_cons, leF_nil, lk, scp, scpL, scpO, resF, resH, resO, resV, resVL, nth, Nat.reduceBEq, Nat.reduceLT, decide_true, decide_false, List.length, List.length_cons, List.length_nil, Nat.reduceAdd, Bool.and_self, Bool.and_true, and_true, true_and, numF] <;> try simp) <;> simp [rowR_self l i (i + 1) (Nat.le_refl _)]
   case round2 =>
    rintro ⟨k, A2, c2⟩ ⟨hk1, hk2⟩ I2 hI2
    have hk1 : i + 1 ≤ k := hk1
    have hk2 : k ≤ l.length := hk2
    (refine Y_go 600 ?_; dsimp only [zq9y, t68n2, T68n2, zq9r, zq9q, Y_k, zq4u, zq8o, zq6n, Nat.reduceBEq, zq6l, zq6k, YK, zq8t, zq5c, zq1o, nth, zq1k, List.length_cons, List.length_nil, Nat.reduceAdd, dropL, takeL, zq19, zq18, zq50, zq04, zq92, zq9b, zq0i, zq9e, zq9i, normF, zq6m, zq86, zq87, zq8c, zq9s, zq6h, zq8x, YC, zq9p, t68n1, T68n1, zq9t, zq9k, zq9u, popTo, zq6i, YP, zqa1, zq4w, zq8p, zq6q, zq0e, zq8a, zqa2])
    refine ⟨fun h2 => ?_, fun h2 => ?_⟩
    rotate_left
    ·have hkl : k = l.length := by have := of_decide_eq_false h2; omega
     subst hkl
     refine ⟨_, .add64 (by omega) (by omega), lend_rule fun a W rep => hI ⟨i + 1, A2, c2⟩ hlt (by show l.length - (i + 1) < l.length - i; omega) a W (rep.le ?_ ?_)⟩ <;> (simp only [setn, List.nil_append, List.cons_append, leF, leH_nil, leH_cons, leF_nil, lk, scp, scpL, scpO, resF, resH, resO, resV, resVL, nth, Nat.reduceBEq, Nat.reduceLT, decide_true, decide_false, List.length, List.length_cons, List.length_nil, Nat.reduceAdd, Bool.and_self, Bool.and_true, and_true, true_and, numF] <;> try simp) <;> simp [racesTo_succ]
    ·have hkt : k < l.length := by have := of_decide_eq_true h2; omega
     refine yield_rule (C' := cxOf Try.prog Try.f68 K68 T68 R') (E := ⟨w, w.heap.size, [], 80, []⟩) (i := 6) (rec := rec) (lno := lo) (keep := K21) ?_ ?_ ?_ hrec ?_ ?_ ?_ ?_ ?_ ?_
     ·rfl
     ·rfl
     ·rfl
     ·simp
     ·rfl
     ·rfl
     ·rfl
     ·exact extB_spec (by simp [extB, SO.blk, bump])
     intro J Q' hQ' hbeg hnorm hjmp
     have hF : NoPanic (fun _ _ _ => False) := fun _ _ _ h => h
     (refine Y_round hF 600 ?_; dsimp only [evL, zq8o, zq6n, Nat.reduceBEq, zq6l, zq6k, setPs, zq9y, t21n1, T21n1, zq9r, zq9q, Y_k, zq4u, YK, zq8t, zq9i, normF, zq6m, zq86, zq87, zq8j, zq8a, zq8c, zqa2])
     refine lend_rule fun a W rep => hbeg _ _ rfl ?_ a W rep
     (refine Y_round hQ' 600 ?_; dsimp only [setn, zq9y, t21n5, T21n5, zq9t, zq9r])
     (refine alt_y rfl hQ' 600 ?_; dsimp only [YT_k, zq8t, YT_alt, zq8s, YT_still, zq6n, Nat.reduceBEq, zq6l, zq6k, zq5c, zq8o, zq1o, YT_done, normF, zq6m, zq86, zq87, zq8j, zq8a, zq8c, zq9y, t21n4, T21n4, zq9r, zq9q, Y_k, zq5a, zq5d, zq5e, List.map, zq6q, zq14, Nat.reduceAdd, YK, zq58, zq4u, zq06, nth, zq1k, List.length_cons, List.length_nil, dropL, takeL, zq19, zq18, zq0w, zq8d, zq1p, zq1c, List.nil_append, List.cons_append, zq1b, zq17, zq88, zq7t, zq8l, zq73, zq8m, zq8k, zq0a, zq1x, zq1t, zq1r, splice, setn, zq50, zq8p, zq04, zq92, zq9b, zq0i, zq9f, Y_gk, zq6d, YR, zq69, zq4v, zq6p, zq0b, zq9i, t21n3, T21n3, zq53, zq0o, zq6e, YS, zq6a, zq6o, zq02, zq9l, zq89, zq9s, zq6f, YC, zq9u, popTo, zq6i, YP, zqa3, zq6c, zq9d, zq0c, Nat.add_zero, zq9c, YG, zq6b, zq0n])
     have cont : raceB l i k = false → ∀ (F : List (Nat × SV)) (ea eb : SO), G (cxR Try.prog K21 T21 lo Q') ⟨w, w.heap.size, [], 80, []⟩ [] { F := F, H := [.cells g0 25 [.val (.slice A l.length c)], .own 56 0 4 B l.length cc (cellsC (clks l l.length)), .cells g1 34 [.own 1 0], .cells g2 40 [.own 7 0], .cells g 3 [.val (.int .i64 l.length)], .obj D (.deferred (some [])), .obj lo (.loop { rec with state := .busy }), .own 58 0 2 A2 (racesTo l l.length i ++ rowR l i k).length c2 (cellsP (racesTo l l.length i ++ rowR l i k)), ea, eb] } := by
      intro hb F ea eb
      have e : rowR l i (k + 1) = rowR l i k := by rw [rowR_succ, hb]; simp
      refine stop_rule fun a W rep => hnorm _ rfl (extB_spec (by simp [extB, SO.blk, bump])) ?_ _ a W rep
      (refine Y_go 600 ?_; dsimp only [zq8t, setn, Y_k, zq53, zq8o, zq6n, Nat.reduceBEq, zq6k, zq0m, YK, zq9i, normF, zq6l, zq6m, zq8a, zq89, zq86, zq87, zq8c, zq9s, zq6g, YC, zq9p, zqa1, zq9y, t68n0, T68n0, zq9q, zq4u, zq4w, zq8p, zq6q, zq04, zq92, zq9b, zq0e, zqa2])
      rw [← e]
      refine ⟨_, .add64 (by omega) (by omega), lend_rule fun a W rep => hI2 ⟨k + 1, A2, c2⟩ ⟨(by omega : i + 1 ≤ k + 1), hkt⟩ (by show l.length - (k + 1) < l.length - k; omega) a W (rep.le ?_ ?_)⟩ <;> (simp only [setn, List.nil_append, List.cons_append, leF, leH_nil, leH_cons, leF_nil, lk, scp, scpL, scpO, resF, resH, resO, resV, resVL, nth, Nat.reduceBEq, Nat.reduceLT, decide_true, decide_false, List.length, List.length_cons, List.length_nil, Nat.reduceAdd, Bool.and_self, Bool.and_true, and_true, true_and, numF] <;> try simp)
     have hit : raceB l i k = true → ∀ (F : List (Nat × SV)) (ea eb ec : SO) A3 c3, G (cxR Try.prog K21 T21 lo Q') ⟨w, w.heap.size, [], 80, []⟩ [] { F := F, H := [.cells g0 25 [.val (.slice A l.length c)], .own 56 0 4 B l.length cc (cellsC (clks l l.length)), .cells g1 34 [.own 1 0], .cells g2 40 [.own 7 1], .cells g 3 [.val (.int .i64 l.length)], .obj D (.deferred (some [])), .obj lo (.loop { rec with state := .busy }), .own 58 1 2 A3 ((racesTo l l.length i ++ rowR l i k).length + 1) c3 (cellsP (racesTo l l.length i ++ rowR l i k) ++ [.int .i64 i, .int .i64 k]), ea, eb, ec] } := by
      intro hb F ea eb ec A3 c3
      have e : rowR l i (k + 1) = rowR l i k ++ [(i, k)] := by rw [rowR_succ, hb]; simp; omega
      have e1 : (racesTo l l.length i ++ rowR l i k).length + 1 = (racesTo l l.length i ++ rowR l i (k + 1)).length := by rw [e]; simp; omega
      have e2 : cellsP (racesTo l l.length i ++ rowR l i k) ++ [.int .i64 i, .int .i64 k] = cellsP (racesTo l l.length i ++ rowR l i (k + 1)) := by rw [e, ← List.append_assoc, cellsP_app (racesTo l l.length i ++ rowR l i k)]; rfl
      rw [e1, e2]
      refine stop_rule fun a W rep => hnorm _ rfl (extB_spec (by simp [extB, SO.blk, bump])) ?_ _ a W rep
      (refine Y_go 600 ?_; dsimp only [zq8t, setn, Y_k, zq53, zq8o, zq6n, Nat.reduceBEq, zq6k, zq0m, YK, zq9i, normF, zq6l, zq6m, zq8a, zq89, zq86, zq87, zq8c, zq9s, zq6g, YC, zq9p, zqa1, zq9y, t68n0, T68n0, zq9q, zq4u, zq4w, zq8p, zq6q, zq04, zq92, zq9b, zq0e, zqa2])
      refine ⟨_, .add64 (by omega) (by omega), lend_rule fun a W rep => hI2 ⟨k + 1, A3, c3⟩ ⟨(by omega : i + 1 ≤ k + 1), hkt⟩ (by show l.length - (k + 1) < l.length - k; omega) a W (rep.res.le ?_ ?_)⟩ <;> (simp only [setn, List.nil_append, List.cons_append, leF, leH_nil, leH_cons, leF_nil, lk, scp, scpL, scpO, resF, resH, resO, resV, resVL, nth, Nat.reduceBEq, Nat.reduceLT, decide_true, decide_false, List.length, List.length_cons, List.length_nil, Nat.reduceAdd, Bool.and_self, Bool.and_true, and_true, true_and, numF] <;> try simp)
     have hcnt : (racesTo l l.length i ++ rowR l i k).length ≤ 160400 := by
      rw [List.length_append]
      have h1 := racesTo_len l l.length i
      have h2 := rowR_len l i k
      have h3 : i * l.length ≤ 400 * 400 := Nat.mul_le_mul (by omega) hn
      omega
     have cl : ∀ i, i < l.length → ∀ j v, (at' l i).cells[j]? = some v → CellAt ⟨w, w.heap.size, [], 80, []⟩ A (Int.toNat (i : Int) * 3 + j) v := by
      intro i hi j v hj
      rw [at_get l hi] at hj
      have := (List.getElem?_eq_some_iff.1 hj).1
      rw [Int.toNat_natCast]
      exact hA.cell (by rw [cellsS_get l hi this]; exact hj)
     have sm : A.isSome = true := hA.isSome (j := i * 3) (by rw [cellsS_len]; omega)
     refine ⟨⟨by omega, by omega, sm⟩, _, cl i hlt 0 _ rfl, _, cl i hlt 1 _ rfl, _, cl i hlt 2 _ rfl, ⟨by omega, by omega, sm⟩, _, cl k hkt 0 _ rfl, _, cl k hkt 1 _ rfl, _, cl k hkt 2 _ rfl,
      fun ga gb => ⟨⟨rfl, det_of_den rfl⟩, ⟨_, cl k hkt 0 _ rfl, _, cl k hkt 1 _ rfl, _, cl k hkt 2 _ rfl, rfl, det_of_den rfl⟩, ?_⟩, fun ga gb => ⟨⟨rfl, det_of_den rfl⟩, ⟨_, cl k hkt 0 _ rfl, _, cl k hkt 1 _ rfl, _, cl k hkt 2 _ rfl, rfl, det_of_den rfl⟩, ?_⟩⟩
     ·refine ⟨fun h1 => ⟨fun h2 => cont (rb2 h2) _ _ _, fun h2 => ⟨fun h3 => cont (rb3 h3) _ _ _, fun h3 => ⟨fun h4 => cont (rb4 h4) _ _ _, fun h4 => ⟨fun h5 => ⟨fun h6 => cont (rb5 h5 h6) _ _ _, fun h6 => ?_⟩, fun h5 => ?_⟩⟩⟩⟩, fun h1 => cont (rb1 h1) _ _ _⟩
      ·refine call_val (R := fun v => v = .bool (ahB (clks l l.length) i k)) (vs := [.slice B l.length cc, .int .i64 i, .int .i64 k]) rfl (fun W hW => ?_) fun v hv => ⟨.val (.bool (ahB (clks l l.length) i k)), by rw [hv]; simp [Is], ?_⟩
       ·have := ahead53 B cc (clks l l.length) i k W (hW.rowAt (i := 1) rfl) (by rw [clks_len]; omega) (by rw [clks_len]; omega)
        rw [clks_len] at this
        exact this
       ·(refine Y_round hQ' 600 ?_; dsimp only [zq8t, Y_k, zq4v, zq8p, zq6o, zq8o, zq6n, Nat.reduceBEq, zq6k, zq6l, zq0c, YK, zq9i, normF, zq87, zq88, zq8d, zq8j, zq8a, zq8c, zq9s, zq6h, zq8x, YC, zq9u, popTo, zq6i, YP, zqa3, zq9p, zq9y, t21n2, T21n2, zq9q, zq5c, zq1o, nth, zq1k, List.length_cons, List.length_nil, Nat.reduceAdd, dropL, takeL, zq19, zq18, zq4u, zq5g, List.map, zq6q, zq21, zq7u, zq73, zq0a, zq20, splice, setn, zq22, zq25, zq5h, repL, List.cons_append, List.nil_append, zq23, Nat.reduceMul, zq7t, zq8l, zq8m, zq8k, zq24, zq26, zq5l, zq2w, zq09, zq08, zq2s, zq9b, zq2r, zq2n, zq2j, zq2k, denL, den, zq2l, zq2h, zq5d, zq81, zq7n, zq1x, zq1t, zq1r, zq8s, zqa1])
        refine ⟨fun h7 => cont (rb6 h7) _ _ _, fun h7 => fun gc => ⟨⟨by simp only [maxLen]; omega, by omega⟩, fun A3 c3 => hit (rb7 h1 h2 h3 h4 (by simp only [h6, Bool.and_false]) h7) _ _ _ _ _ _⟩⟩
      ·refine call_val (R := fun v => v = .bool (ahB (clks l l.length) i k)) (vs := [.slice B l.length cc, .int .i64 i, .int .i64 k]) rfl (fun W hW => ?_) fun v hv => ⟨.val (.bool (ahB (clks l l.length) i k)), by rw [hv]; simp [Is], ?_⟩
       ·have := ahead53 B cc (clks l l.length) i k W (hW.rowAt (i := 1) rfl) (by rw [clks_len]; omega) (by rw [clks_len]; omega)
        rw [clks_len] at this
        exact this
       ·(refine Y_round hQ' 600 ?_; dsimp only [zq8t, Y_k, zq4v, zq8p, zq6o, zq8o, zq6n, Nat.reduceBEq, zq6k, zq6l, zq0c, YK, zq9i, normF, zq87, zq88, zq8d, zq8j, zq8a, zq8c, zq9s, zq6h, zq8x, YC, zq9u, popTo, zq6i, YP, zqa3, zq9p, zq9y, t21n2, T21n2, zq9q, zq5c, zq1o, nth, zq1k, List.length_cons, List.length_nil, Nat.reduceAdd, dropL, takeL, zq19, zq18, zq4u, zq5g, List.map, zq6q, zq21, zq7u, zq73, zq0a, zq20, splice, setn, zq22, zq25, zq5h, repL, List.cons_append, List.nil_append, zq23, Nat.reduceMul, zq7t, zq8l, zq8m, zq8k, zq24, zq26, zq5l, zq2w, zq09, zq08, zq2s, zq9b, zq2r, zq2n, zq2j, zq2k, denL, den, zq2l, zq2h, zq5d, zq81, zq7n, zq1x, zq1t, zq1r, zq8s, zqa1])
        refine ⟨fun h7 => cont (rb6 h7) _ _ _, fun h7 => fun gc => ⟨⟨by simp only [maxLen]; omega, by omega⟩, fun A3 c3 => hit (rb7 h1 h2 h3 h4 (by simp only [h5, Bool.false_and]) h7) _ _ _ _ _ _⟩⟩
     ·refine ⟨fun h1 => ⟨fun h2 => cont (rb2 h2) _ _ _, fun h2 => ⟨fun h3 => cont (rb3 h3) _ _ _, fun h3 => ⟨fun h4 => cont (rb4 h4) _ _ _, fun h4 => ⟨fun h5 => ⟨fun h6 => cont (rb5 h5 h6) _ _ _, fun h6 => ?_⟩, fun h5 => ?_⟩⟩⟩⟩, fun h1 => cont (rb1 h1) _ _ _⟩
      ·refine call_val (R := fun v => v = .bool (ahB (clks l l.length) i k)) (vs := [.slice B l.length cc, .int .i64 i, .int .i64 k]) rfl (fun W hW => ?_) fun v hv => ⟨.val (.bool (ahB (clks l l.length) i k)), by rw [hv]; simp [Is], ?_⟩
       ·have := ahead53 B cc (clks l l.length) i k W (hW.rowAt (i := 1) rfl) (by rw [clks_len]; omega) (by rw [clks_len]; omega)
        rw [clks_len] at this
        exact this
       ·(refine Y_round hQ' 600 ?_; dsimp only [zq8t, Y_k, zq4v, zq8p, zq6o, zq8o, zq6n, Nat.reduceBEq, zq6k, zq6l, zq0c, YK, zq9i, normF, zq87, zq88, zq8d, zq8j, zq8a, zq8c, zq9s, zq6h, zq8x, YC, zq9u, popTo, zq6i, YP, zqa3, zq9p, zq9y, t21n2, T21n2, zq9q, zq5c, zq1o, nth, zq1k, List.length_cons, List.length_nil, Nat.reduceAdd, dropL, takeL, zq19, zq18, zq4u, zq5g, List.map, zq6q, zq21, zq7u, zq73, zq0a, zq20, splice, setn, zq22, zq25, zq5h, repL, List.cons_append, List.nil_append, zq23, Nat.reduceMul, zq7t, zq8l, zq8m, zq8k, zq24, zq26, zq5l, zq2w, zq09, zq08, zq2s, zq9b, zq2r, zq2n, zq2j, zq2k, denL, den, zq2l, zq2h, zq5d, zq81, zq7n, zq1x, zq1t, zq1r, zq8s, zqa1])
        refine ⟨fun h7 => cont (rb6 h7) _ _ _, fun h7 => fun gc => ⟨⟨by simp only [maxLen]; omega, by omega⟩, fun A3 c3 => hit (rb7 h1 h2 h3 h4 (by simp only [h6, Bool.and_false]) h7) _ _ _ _ _ _⟩⟩
      ·refine call_val (R := fun v => v = .bool (ahB (clks l l.length) i k)) (vs := [.slice B l.length cc, .int .i64 i, .int .i64 k]) rfl (fun W hW => ?_) fun v hv => ⟨.val (.bool (ahB (clks l l.length) i k)), by rw [hv]; simp [Is], ?_⟩
       ·have := ahead53 B cc (clks l l.length) i k W (hW.rowAt (i := 1) rfl) (by rw [clks_len]; omega) (by rw [clks_len]; omega)
        rw [clks_len] at this
        exact this
       ·(refine Y_round hQ' 600 ?_; dsimp only [zq8t, Y_k, zq4v, zq8p, zq6o, zq8o, zq6n, Nat.reduceBEq, zq6k, zq6l, zq0c, YK, zq9i, normF, zq87, zq88, zq8d, zq8j, zq8a, zq8c, zq9s, zq6h, zq8x, YC, zq9u, popTo, zq6i, YP, zqa3, zq9p, zq9y, t21n2, T21n2, zq9q, zq5c, zq1o, nth, zq1k, List.length_cons, List.length_nil, Nat.reduceAdd, dropL, takeL, zq19, zq18, zq4u, zq5g, List.map, zq6q, zq21, zq7u, zq73, zq0a, zq20, splice, setn, zq22, zq25, zq5h, repL, List.cons_append, List.nil_append, zq23, Nat.reduceMul, zq7t, zq8l, zq8m, zq8k, zq24, zq26, zq5l, zq2w, zq09, zq08, zq2s, zq9b, zq2r, zq2n, zq2j, zq2k, denL, den, zq2l, zq2h, zq5d, zq81, zq7n, zq1x, zq1t, zq1r, zq8s, zqa1])
        refine ⟨fun h7 => cont (rb6 h7) _ _ _, fun h7 => fun gc => ⟨⟨by simp only [maxLen]; omega, by omega⟩, fun A3 c3 => hit (rb7 h1 h2 h3 h4 (by simp only [h5, Bool.false_and]) h7) _ _ _ _ _ _⟩⟩
end Go.Proofs.Ytnedgfkgmdoahaa
