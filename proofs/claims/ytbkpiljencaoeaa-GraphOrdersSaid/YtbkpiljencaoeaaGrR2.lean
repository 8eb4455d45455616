/- The document's graphs (2): who is right behind whom, as a table. -/
import Derived.Test.YtbkpiljencaoeaaGrR1
import Derived.Test.YtbkpiljencaoeaaGrCode
set_option linter.unusedSimpArgs false
set_option linter.unusedVariables false
set_option linter.unnecessarySimpa false
namespace Go.Proofs.Ytbkpiljencaoeaa
open Go Go.Sx Go.Gr
set_option maxRecDepth 100000
def tabW (gs : Nat → Nat) (i n : Nat) : List Value := (List.range n).map fun a => if a < i then .slice (some ⟨gs a, 0, none⟩) n n else .slice none 0 0
theorem tabW_len (gs : Nat → Nat) (i n : Nat) : (tabW gs i n).length = n := by simp [tabW]
theorem tabW_all (gs : Nat → Nat) (n : Nat) : tabW gs n n = tabV gs n n := List.map_congr_left fun a ha => if_pos (List.mem_range.1 ha)
theorem tabW_zero (gs : Nat → Nat) (n : Nat) : repN n [.slice none 0 0] = tabW gs 0 n := by
 apply List.ext_getElem?
 intro j
 by_cases hj : j < n
 ·rw [repN_get n [.slice none 0 0] j (by simpa using hj)]
  unfold tabW
  rw [List.getElem?_map, List.getElem?_range hj]
  simp [Nat.mod_one]
 ·rw [List.getElem?_eq_none (by rw [repN_length]; simp; omega), List.getElem?_eq_none (by rw [tabW_len]; omega)]
theorem tabW_set (gs : Nat → Nat) {i n : Nat} (g : Nat) (h : i < n) : setn (tabW gs i n) i (.slice (some ⟨g, 0, none⟩) n n) = tabW (fun a => if a = i then g else gs a) (i + 1) n := by
 rw [setn_eq]
 apply List.ext_getElem?
 intro j
 by_cases hj : j < n
 ·rw [List.getElem?_set]
  unfold tabW
  rw [List.getElem?_map, List.getElem?_map, List.getElem?_range hj]
  by_cases e : i = j
  ·subst e; rw [if_pos rfl, if_pos (by simp [h])]; simp
  ·rw [if_neg e]
   have e' : ¬ j = i := fun q => e q.symm
   simp only [Option.map_some, if_neg e']
   by_cases hji : j < i
   ·rw [if_pos hji, if_pos (by omega)]
   ·rw [if_neg hji, if_neg (by omega)]
 ·rw [List.getElem?_eq_none (by rw [List.length_set, tabW_len]; omega), List.getElem?_eq_none (by rw [tabW_len]; omega)]
theorem rgB_snoc (l : List Ed) (d : Ed) (i j : Nat) : rgB (l ++ [d]) i j = (rgB l i j || (d.1 == (i : Int) && d.2 == (j : Int))) := by
 unfold rgB; rw [List.any_append]; simp
theorem right30 (A : Option Addr) (c n : Nat) (l : List Ed) (w : World) (hA : RowAt w A (cellsD l)) (hok : okG n l) :
  CallsV Try.prog 30 [.int .i64 n, .slice A l.length c] w fun v w' => ∃ g gs, v = .slice (some ⟨g, 0, none⟩) n n ∧ HeapOk ⟨w, w.heap.size, [], 41, []⟩ ([.own 38 0 1 (some ⟨g, 0, none⟩) n n (tabV gs n n)] ++ tabF 4 gs (rgB l) n n) w' := by
 refine calls_go (keep := K30) (nt := 41) (svs := [.val (.int .i64 n), .val (.slice A l.length c)]) Try.func30 x30 n30 (by simp) (by simp [IsL, Is]) fun R hR => ?_
 have hn5 : n ≤ 500 := by have := hok.2.1; omega
 have hl2 := hok.2.2.1
 (refine Y_go 600 ?_; dsimp only [X30, numF, Nat.reduceAdd, zq9r, zq9q, Y_k, zq4u, zq8p, zq6u, YK, zq8t, zq9i, normF, zq6n, Nat.reduceBEq, zq6l, zq6k, zq6m, zq86, zq87, zq9y, t30n9, T30n9, zq8o, zq67, zq06, zq4t, List.length_nil, List.nil_append, zq8f, t30n8, T30n8, zq6q, zq9t, zq9v])
 refine ⟨⟨by omega, by omega, by omega, by omega⟩, fun g => ?_⟩
 rw [Int.toNat_natCast]
 refine loop_go (α := Nat × (Nat → Nat)) (fun q => q.1 ≤ n) (fun _ => ⟨w, w.heap.size, [], 41, []⟩)
  (fun q => { F := [(0, .val (.int .i64 n)), (1, .val (.slice A l.length c)), (5, .own 0 0), (6, .val (.int .i64 q.1))], H := [.own 38 0 1 (some ⟨g, 0, none⟩) n n (tabW q.2 q.1 n)] ++ tabF 4 q.2 (fun _ _ => false) q.1 n }) (fun q => n - q.1) (fun _ => rfl) ?start ?round
 case start =>
  intro a W rep
  refine ⟨(0, fun _ => 0), Nat.zero_le _, ?_⟩
  simp only [tabF, List.range_zero, List.map_nil, List.append_nil]
  exact rep.le (by (simp only [setn, List.nil_append, List.cons_append, leF, leH_nil, leH_cons, leF_nil, lk, scp, scpL, scpO, resF, resH, resO, resV, resVL, nth, Nat.reduceBEq, Nat.reduceLT, decide_true, decide_false, List.length, List.length_cons, List.length_nil, Nat.reduceAdd, Bool.and_self, Bool.and_true, and_true, true_and, numF] <;> try simp)) (by rw [tabW_zero (fun _ => 0)]; (simp only [setn, List.nil_append, List.cons_append, leF, leH_nil, leH_cons, leF_nil, lk, scp, scpL, scpO, resF, resH, resO, resV, resVL, nth, Nat.reduceBEq, Nat.reduceLT, decide_true, decide_false, List.length, List.length_cons, List.length_nil, Nat.reduceAdd, Bool.and_self, Bool.and_true, and_true, true_and, numF] <;> try simp))
 case round =>
  rintro ⟨i, gs⟩ hi I again
  simp only at hi ⊢
  by_cases hlt : i < n
  ·refine G.cut (F := [(0, .val (.int .i64 n)), (1, .val (.slice A l.length c)), (5, .own 0 0), (6, .val (.int .i64 i))]) (H1 := [.own 38 0 1 (some ⟨g, 0, none⟩) n n (tabW gs i n)]) (r := tabF 4 gs (fun _ _ => false) i n) rfl (by (simp only [setn, List.nil_append, List.cons_append, leF, leH_nil, leH_cons, leF_nil, lk, scp, scpL, scpO, resF, resH, resO, resV, resVL, nth, Nat.reduceBEq, Nat.reduceLT, decide_true, decide_false, List.length, List.length_cons, List.length_nil, Nat.reduceAdd, Bool.and_self, Bool.and_true, and_true, true_and, numF] <;> try simp)) fun W0 hW0 hov => ?_
   (refine Y_go 600 ?_; dsimp only [zq9y, t30n2, T30n2, zq9r, zq9q, Y_k, zq4u, zq8o, zq6n, Nat.reduceBEq, zq6l, zq6k, YK, zq8t, zq50, zq04, zq92, zq9b, zq0i, zq9e, zq9i, normF, zq6m, zq86, zq87, zq8f, zq9s, zq6h, zq8x, YC, zq9p, t30n1, T30n1, zq9t, zq67, zq06, zq4t, List.length_cons, List.length_nil, Nat.reduceAdd, List.cons_append, List.nil_append, zq58, zq0y, nth, zq09, zq08, zq0v, zq5d, zq81, zq7n, zq0a, zq1y, zq1w, denL, den, zq1v, splice, setn, zq8s, zq89, zqa1, t30n0, T30n0, zq4w, zq8p, zq6q, zq0e, zqa2, zq9u, popTo, zq6i, YP, t30n7, T30n7, zq8a, zq9v])
   refine ⟨fun _ => ?_, fun q => absurd (of_decide_eq_false q) (by omega)⟩
   refine ⟨⟨by omega, by omega, by omega, by omega⟩, fun g1 => ⟨⟨by omega, by omega⟩, by rw [tabW_len, Int.toNat_natCast]; omega, ((i + 1 : Nat) : Int), ArOk.to (by omega) (by omega) (by omega), lend_rule fun a W rep => again (i + 1, fun a => if a = i then g1 else gs a) hlt (by simp only; omega) a W ?_⟩⟩
   rw [Int.toNat_natCast, Int.toNat_natCast, Nat.mul_one, tabW_set _ _ hlt, rwV_zero] at rep
   have e2 : tabF 4 (fun a => if a = i then g1 else gs a) (fun _ _ => false) (i + 1) n = tabF 4 gs (fun _ _ => false) i n ++ [.own 4 0 1 (some ⟨g1, 0, none⟩) n n (rwV n fun _ => false)] := by
    rw [tabF_succ, if_pos rfl, tabF_congr (gs' := gs) (M' := fun _ _ => false) fun a ha => ⟨if_neg (by omega), fun _ _ => rfl⟩]
   simp only [e2]
   have r1 : Rep ⟨W0, W0.heap.size, fps [.own 38 0 1 (some ⟨g, 0, none⟩) n n (tabW gs i n)], 41, []⟩ { F := [(0, .val (.int .i64 n)), (1, .val (.slice A l.length c)), (5, .own 0 0), (6, .val (.int .i64 ((i + 1 : Nat) : Int)))], H := [.own 38 0 1 (some ⟨g, 0, none⟩) n n (tabW (fun a => if a = i then g1 else gs a) (i + 1) n), .own 4 0 1 (some ⟨g1, 0, none⟩) n n (rwV n fun _ => false)] } a W := rep.res.le (by (simp only [setn, List.nil_append, List.cons_append, leF, leH_nil, leH_cons, leF_nil, lk, scp, scpL, scpO, resF, resH, resO, resV, resVL, nth, Nat.reduceBEq, Nat.reduceLT, decide_true, decide_false, List.length, List.length_cons, List.length_nil, Nat.reduceAdd, Bool.and_self, Bool.and_true, and_true, true_and, numF] <;> try simp)) (by (simp only [setn, List.nil_append, List.cons_append, leF, leH_nil, leH_cons, leF_nil, lk, scp, scpL, scpO, resF, resH, resO, resV, resVL, nth, Nat.reduceBEq, Nat.reduceLT, decide_true, decide_false, List.length, List.length_cons, List.length_nil, Nat.reduceAdd, Bool.and_self, Bool.and_true, and_true, true_and, numF] <;> try simp))
   have r2 := Rep.back hW0 (tabF_shut _ _ _ _ _) r1 (Over.refl _) rfl rfl
   exact Rep.fam' (b := [.own 38 0 1 (some ⟨g, 0, none⟩) n n (tabW (fun a => if a = i then g1 else gs a) (i + 1) n)]) (r := .own 4 0 1 (some ⟨g1, 0, none⟩) n n (rwV n fun _ => false) :: tabF 4 gs (fun _ _ => false) i n) r2 (by (simp only [setn, List.nil_append, List.cons_append, leF, leH_nil, leH_cons, leF_nil, lk, scp, scpL, scpO, resF, resH, resO, resV, resVL, nth, Nat.reduceBEq, Nat.reduceLT, decide_true, decide_false, List.length, List.length_cons, List.length_nil, Nat.reduceAdd, Bool.and_self, Bool.and_true, and_true, true_and, numF] <;> try simp)) rfl (fun e he => by
    rcases List.mem_cons.1 he with rfl | h
    ·rfl
    ·exact tabF_shut _ _ _ _ _ e h) (by have := List.perm_append_comm (l₁ := [SO.own 4 0 1 (some ⟨g1, 0, none⟩) n n (rwV n fun _ => false)]) (l₂ := tabF 4 gs (fun _ _ => false) i n); exact this)
  ·have hie : i = n := by omega
   subst hie
   rw [tabW_all]
   (refine Y_go 600 ?_; dsimp only [List.cons_append, List.nil_append, zq9y, t30n2, T30n2, zq9r, zq9q, Y_k, zq4u, zq8o, zq6n, Nat.reduceBEq, zq6l, zq6k, YK, zq8t, zq50, zq04, zq92, zq9b, zq0i, zq9e, zq9i, normF, zq6m, zq86, zq87, zq8f, zq9s, zq6h, zq8x, YC, zq9p, t30n1, T30n1, zq9t, zq67, zq06, zq4t, List.length_cons, zq58, zq0y, nth, zq09, zq08, zq0v, zq5d, zq81, zq7n, zq0a, zq1y, zq1w, denL, den, zq9u, popTo, zq6i, YP, t30n7, T30n7, zq8p, zq6q, zq8a, zq9v])
   refine ⟨fun q => absurd (of_decide_eq_true q) (by omega), fun _ => ?_⟩
   clear again
   refine loop_go (α := Nat) (fun k => k ≤ l.length) (fun _ => ⟨w, w.heap.size, [], 41, []⟩)
    (fun k => { F := [(0, .val (.int .i64 i)), (1, .val (.slice A l.length c)), (5, .own 0 0), (7, .val (.int .i64 k))], H := [.own 38 0 1 (some ⟨g, 0, none⟩) i i (tabV gs i i)] ++ tabF 4 gs (rgB (l.take k)) i i }) (fun k => l.length - k) (fun _ => rfl) ?start2 ?round2
   case start2 =>
    intro a W rep
    refine ⟨0, Nat.zero_le _, ?_⟩
    have e0 : tabF 4 gs (rgB (l.take 0)) i i = tabF 4 gs (fun _ _ => false) i i := tabF_congr fun a _ => ⟨rfl, fun k _ => rfl⟩
    simp only [e0]
    exact rep.few 1 (by (simp only [setn, List.nil_append, List.cons_append, leF, leH_nil, leH_cons, leF_nil, lk, scp, scpL, scpO, resF, resH, resO, resV, resVL, nth, Nat.reduceBEq, Nat.reduceLT, decide_true, decide_false, List.length, List.length_cons, List.length_nil, Nat.reduceAdd, Bool.and_self, Bool.and_true, and_true, true_and, numF] <;> try simp))
   case round2 =>
    rintro k hk I2 again2
    by_cases hlt : k < l.length
    ·have hg := List.getElem?_eq_getElem hlt
     have hd := hok.2.2.2 _ (List.getElem_mem hlt)
     have htk : l.take (k + 1) = l.take k ++ [l[k]] := by rw [List.take_add_one, hg]; rfl
     have sA : A.isSome = true := hA.isSome (j := k * 2) (by rw [cellsD_len]; omega)
     generalize hdd : l[k] = d at hd htk hg
     obtain ⟨d1, d2⟩ := d
     simp only at hd
     obtain ⟨d1, rfl⟩ : ∃ t : Nat, (t : Int) = d1 := ⟨d1.toNat, by omega⟩
     obtain ⟨d2, rfl⟩ : ∃ t : Nat, (t : Int) = d2 := ⟨d2.toNat, by omega⟩
     have h1 : d1 < i := by omega
     have h2 : d2 < i := by omega
     refine G.le (E' := ⟨w, w.heap.size, [], 41, []⟩) rfl (s' := { F := [(0, .val (.int .i64 i)), (1, .val (.slice A l.length c)), (5, .own 0 0), (7, .val (.int .i64 k))], H := [.own 38 0 1 (some ⟨g, 0, none⟩) i i (tabV gs i i), .own 4 0 1 (some ⟨gs d1, 0, none⟩) i i (rwV i (rgB (l.take k) d1))] ++ tabX 4 gs (rgB (l.take k)) i i d1 }) (fun a W rep => Rep.fam' (b := [.own 38 0 1 (some ⟨g, 0, none⟩) i i (tabV gs i i)]) rep (by (simp only [setn, List.nil_append, List.cons_append, leF, leH_nil, leH_cons, leF_nil, lk, scp, scpL, scpO, resF, resH, resO, resV, resVL, nth, Nat.reduceBEq, Nat.reduceLT, decide_true, decide_false, List.length, List.length_cons, List.length_nil, Nat.reduceAdd, Bool.and_self, Bool.and_true, and_true, true_and, numF] <;> try simp)) rfl (tabF_shut _ _ _ _ _) (tabF_out 4 gs (rgB (l.take k)) i h1)) ?_
     refine G.cut rfl (by (simp only [setn, List.nil_append, List.cons_append, leF, leH_nil, leH_cons, leF_nil, lk, scp, scpL, scpO, resF, resH, resO, resV, resVL, nth, Nat.reduceBEq, Nat.reduceLT, decide_true, decide_false, List.length, List.length_cons, List.length_nil, Nat.reduceAdd, Bool.and_self, Bool.and_true, and_true, true_and, numF] <;> try simp)) fun W0 hW0 hov => ?_
     have hAE : RowE ⟨W0, W0.heap.size, fps [.own 38 0 1 (some ⟨g, 0, none⟩) i i (tabV gs i i), .own 4 0 1 (some ⟨gs d1, 0, none⟩) i i (rwV i (rgB (l.take k) d1))], 41, []⟩ A (cellsD l) := (hA.toE (st := []) (by simp) 41 []).over hov
     obtain ⟨ca, cb⟩ := edE_cell0 hAE hg
     simp only at ca cb
     have bA : 0 ≤ (k : Int) ∧ (k : Int) < (l.length : Int) ∧ A.isSome = true := ⟨by omega, by omega, sA⟩
     have b0 : (0 : Int) ≤ 0 ∧ (0 : Int) < ((2 : Nat) : Int) ∧ A.isSome = true := ⟨by omega, by omega, sA⟩
     have b1 : (0 : Int) ≤ 1 ∧ (1 : Int) < ((2 : Nat) : Int) ∧ A.isSome = true := ⟨by omega, by omega, sA⟩
     have ht : (tabV gs i i)[(d1 : Int).toNat * 1]? = some (.slice (some ⟨gs d1, 0, none⟩) i i) := by rw [Int.toNat_natCast, Nat.mul_one]; exact tabV_get h1
     (refine Y_go 23 ?_; dsimp only [zq9y, t30n5, T30n5, zq9r, zq9q, Y_k, zq4u, zq8o, zq6n, Nat.reduceBEq, zq6l, zq6k, YK, zq8t, zq55, zq0r, zq50, zq04, zq92, zq9b, zq0i, zq9e, zq9i, normF, zq6m, zq87, zq86, zq8f, zq9s, zq6h, zq8x, YC, zq9p, t30n4, T30n4, zq9t, zq58, zq06, zq0w, zq59, zq8p, zq6q, zq12, Int.reduceToNat, Nat.reduceMul, Nat.add_zero, zq5c, zq1p, zq1c, List.nil_append, zq1b, zq18, zq0y, nth, zq09, zq08, zq0v, zq1q, zq1n, zq1g, Y_0, zq9u, popTo, zq6i, YP, t30n6, T30n6, zq8a, zq9x])
     refine ⟨fun _ => ?_, fun q => absurd (of_decide_eq_false q) (by omega)⟩
     refine ⟨bA, b0, _, ca, ⟨by omega, by omega⟩, _, _, _, ht, ?_⟩
     refine G.fold 33 1 rfl rfl ?_
     (refine Y_go 600 ?_; dsimp only [Y_k, zq4u, zq8o, zq6n, Nat.reduceBEq, zq6l, zq6k, YK, zq8t, zq58, zq06, zq0w, zq59, zq8p, zq6q, zq12, Int.reduceToNat, Nat.reduceMul, zq5c, zq1p, zq1c, List.nil_append, zq1b, zq18, zq0y, nth, zq09, zq08, zq0v, zq5d, zq6o, zq7v, zq7h, zq0a, zq1y, zq1w, denL, den, zq1v, splice, setn, zq8s, zq9i, normF, zq6m, zq89, zq86, zq87, zq8f, zqa1, zq9y, t30n3, T30n3, zq9q, zq4w, zq04, zq92, zq9b, zq0e, zqa2])
     refine ⟨bA, b1, _, cb, ⟨by omega, by omega⟩, by rw [rwV_len, Int.toNat_natCast]; omega, ((k + 1 : Nat) : Int), ArOk.to (by omega) (by omega) (by omega), lend_rule fun a W rep => again2 (k + 1) hlt (by omega) a W ?_⟩
     rw [Int.toNat_natCast, Nat.mul_one, rwV_set _ _ h2] at rep
     have r1 : Rep ⟨W0, W0.heap.size, fps [.own 38 0 1 (some ⟨g, 0, none⟩) i i (tabV gs i i), .own 4 0 1 (some ⟨gs d1, 0, none⟩) i i (rwV i (rgB (l.take k) d1))], 41, []⟩ { F := [(0, .val (.int .i64 i)), (1, .val (.slice A l.length c)), (5, .own 0 0), (7, .val (.int .i64 ((k + 1 : Nat) : Int)))], H := [.own 38 0 1 (some ⟨g, 0, none⟩) i i (tabV gs i i), .own 4 0 1 (some ⟨gs d1, 0, none⟩) i i (rwV i fun j => if j = d2 then true else rgB (l.take k) d1 j)] } a W := rep.res.le (by (simp only [setn, List.nil_append, List.cons_append, leF, leH_nil, leH_cons, leF_nil, lk, scp, scpL, scpO, resF, resH, resO, resV, resVL, nth, Nat.reduceBEq, Nat.reduceLT, decide_true, decide_false, List.length, List.length_cons, List.length_nil, Nat.reduceAdd, Bool.and_self, Bool.and_true, and_true, true_and, numF] <;> try simp)) (by (simp only [setn, List.nil_append, List.cons_append, leF, leH_nil, leH_cons, leF_nil, lk, scp, scpL, scpO, resF, resH, resO, resV, resVL, nth, Nat.reduceBEq, Nat.reduceLT, decide_true, decide_false, List.length, List.length_cons, List.length_nil, Nat.reduceAdd, Bool.and_self, Bool.and_true, and_true, true_and, numF] <;> try simp))
     have r2 := Rep.back hW0 (tabX_shut _ _ _ _ _ _) r1 (Over.refl _) rfl rfl
     refine Rep.fam' (b := [.own 38 0 1 (some ⟨g, 0, none⟩) i i (tabV gs i i)]) (r := .own 4 0 1 (some ⟨gs d1, 0, none⟩) i i (rwV i fun j => if j = d2 then true else rgB (l.take k) d1 j) :: tabX 4 gs (rgB (l.take k)) i i d1) r2 (by (simp only [setn, List.nil_append, List.cons_append, leF, leH_nil, leH_cons, leF_nil, lk, scp, scpL, scpO, resF, resH, resO, resV, resVL, nth, Nat.reduceBEq, Nat.reduceLT, decide_true, decide_false, List.length, List.length_cons, List.length_nil, Nat.reduceAdd, Bool.and_self, Bool.and_true, and_true, true_and, numF] <;> try simp)) rfl (fun e he => by
      rcases List.mem_cons.1 he with rfl | h
      ·rfl
      ·exact tabX_shut _ _ _ _ _ _ e h) ?_
     have e3 : (rwV i fun j => if j = d2 then true else rgB (l.take k) d1 j) = rwV i (rgB (l.take (k + 1)) d1) := rwV_congr fun j _ => by
      rw [htk, rgB_snoc]
      by_cases hj : j = d2
      ·subst hj; simp
      ·have : ¬ (d2 : Int) = j := fun e => hj (by omega)
       simp [hj, this]
     rw [e3]
     exact tabF_in 4 gs (M' := rgB (l.take (k + 1))) h1 fun a _ ha j _ => by
      rw [htk, rgB_snoc]
      have : ¬ (d1 : Int) = a := fun e => ha (by omega)
      simp [this]
    ·have hke : k = l.length := by omega
     subst hke
     rw [List.take_of_length_le (Nat.le_refl _)]
     (refine Y_go 600 ?_; dsimp only [List.cons_append, List.nil_append, zq9y, t30n5, T30n5, zq9r, zq9q, Y_k, zq4u, zq8o, zq6n, Nat.reduceBEq, zq6l, zq6k, YK, zq8t, zq55, zq0r, zq50, zq04, zq92, zq9b, zq0i, zq9e, zq9i, normF, zq6m, zq87, zq86, zq8f, zq9s, zq6h, zq8x, YC, zq9p, t30n4, T30n4, zq9t, zq58, zq06, zq0w, zq59, zq8p, zq6q, zq12, Int.reduceToNat, Nat.reduceMul, Nat.add_zero, zq5c, zq1p, zq1c, zq1b, zq18, zq0y, nth, zq09, zq08, zq0v, zq1q, zq1n, zq1g, zq5d, zq6o, zq7v, zq7h, zq0a, zq9u, popTo, zq6i, YP, t30n6, T30n6, zq8a, zq9x])
     refine ⟨fun q => absurd (of_decide_eq_true q) (by omega), fun _ => ?_⟩
     exact ret_rule (vs := [.slice (some ⟨g, 0, none⟩) i i]) r30 rfl rfl fun W hW => hR _ _ ⟨g, gs, rfl, hW⟩
end Go.Proofs.Ytbkpiljencaoeaa
