/- The document's graphs (3): who is behind whom, by rounds. -/
import Derived.Test.YtbkpiljencaoeaaGrR2
import Derived.Test.YtbkpiljencaoeaaGrPlain
import Derived.Test.YtbkpiljencaoeaaGrCode
set_option linter.unusedSimpArgs false
set_option linter.unusedVariables false
set_option linter.unnecessarySimpa false
namespace Go.Proofs.Ytbkpiljencaoeaa
open Go Go.Sx Go.Gr
set_option maxRecDepth 100000
theorem tabX_mem {T : TypeId} {gs : Nat → Nat} {M : Nat → Nat → Bool} {r n i a : Nat} (h : a < r) (hne : a ≠ i) : SO.own T 0 1 (some ⟨gs a, 0, none⟩) n n (rwV n (M a)) ∈ tabX T gs M r n i := by
 unfold tabX
 refine List.mem_map.2 ⟨a, ?_, rfl⟩
 refine List.mem_of_getElem? (i := if a < i then a else a - 1) ?_
 rw [List.getElem?_eraseIdx]
 by_cases q : a < i
 ·rw [if_pos q, if_pos q]; exact List.getElem?_range h
 ·rw [if_neg q, if_neg (by omega), show a - 1 + 1 = a by omega]; exact List.getElem?_range h
theorem behind16 (A : Option Addr) (c n : Nat) (l : List Ed) (w : World) (hA : RowAt w A (cellsD l)) (hok : okG n l) :
  CallsV Try.prog 16 [.int .i64 n, .slice A l.length c] w fun v w' => ∃ g gs, v = .slice (some ⟨g, 0, none⟩) n n ∧ HeapOk ⟨w, w.heap.size, [], 41, []⟩ ([.own 38 0 1 (some ⟨g, 0, none⟩) n n (tabV gs n n)] ++ tabF 4 gs (wsN l n) n n) w' := by
 refine calls_go (keep := K16) (nt := 59) (svs := [.val (.int .i64 n), .val (.slice A l.length c)]) Try.func16 x16 n16 (by simp) (by simp [IsL, Is]) fun R hR => ?_
 have hn5 : n ≤ 500 := by have := hok.2.1; omega
 (refine Y_go 600 ?_; dsimp only [X16, numF, Nat.reduceAdd, zq9r, zq9q, Y_k, zq4u, zq8p, zq6u, YK, zq8t, zq9i, normF, zq6n, Nat.reduceBEq, zq6l, zq6k, zq6m, zq86, zq87, zq9y, t16n11, T16n11, zq8o, zq9j])
 refine call_rule (vs := [.int .i64 n, .slice A l.length c]) rfl (R := fun W v W' => ∃ g gs, v = .slice (some ⟨g, 0, none⟩) n n ∧ HeapOk ⟨w, w.heap.size, [], 59, []⟩ ([.own 38 0 1 (some ⟨g, 0, none⟩) n n (tabV gs n n)] ++ tabF 4 gs (rgB l) n n) W') (fun W hW => (right30 A c n l W (hA.keep hW.fresh') hok).mono ?_) fun W v W' hW ⟨g, gs, hv, hh⟩ => ⟨.own 0 0, _, ?_, HExt.app [] _, hh, ?_⟩
 ·rintro v W' ⟨g, gs, hv, hh⟩
  exact ⟨g, gs, hv, (hW.rebase 41 []).2.heap (by
   have e : fps ([] : List SO) = [] := rfl
   rw [e]; exact hh)⟩
 ·rw [hv]; simp only [Is]
  exact ⟨38, 0, 1, some ⟨g, 0, none⟩, n, n, tabV gs n n, rfl, Nat.le_refl _, ⟨_, _, _, rfl⟩, fun _ => rfl⟩
 clear hh hv hW
 dsimp only [zq8t, List.nil_append]
 (refine Y_go 600 ?_; dsimp only [Y_k, zq4u, zq8o, zq6n, Nat.reduceBEq, zq6k, YK, zq8t, zq9i, normF, zq6l, zq6m, zq86, zq8f, zq87, zq9y, t16n10, T16n10, zq9r, zq9q, zq8p, zq6q, zq9t, zq9v])
 refine loop_go (α := Nat) (fun k => k ≤ n) (fun _ => ⟨w, w.heap.size, [], 59, []⟩)
  (fun k => { F := [(0, .val (.int .i64 n)), (5, .own 0 0), (6, .val (.int .i64 k))], H := [.own 38 0 1 (some ⟨g, 0, none⟩) n n (tabV gs n n)] ++ tabF 4 gs (wsN l k) n n }) (fun k => n - k) (fun _ => rfl) ?start ?round
 case start =>
  intro a W rep
  exact ⟨0, Nat.zero_le _, Rep.few rep 1 (by (simp only [setn, List.nil_append, List.cons_append, leF, leH_nil, leH_cons, leF_nil, lk, scp, scpL, scpO, resF, resH, resO, resV, resVL, nth, Nat.reduceBEq, Nat.reduceLT, decide_true, decide_false, List.length, List.length_cons, List.length_nil, Nat.reduceAdd, Bool.and_self, Bool.and_true, and_true, true_and, numF] <;> try simp))⟩
 case round =>
  rintro k hk I again
  (refine Y_go 600 ?_; dsimp only [List.cons_append, List.nil_append, zq9y, t16n8, T16n8, zq9r, zq9q, Y_k, zq4u, zq8o, zq6n, Nat.reduceBEq, zq6l, zq6k, YK, zq8t, zq50, zq04, zq92, zq9b, zq0i, zq9e, zq9i, normF, zq6m, zq86, zq87, zq8f, zq9s, zq6h, zq8x, YC, zq9p, t16n7, T16n7, zq9t, zq8p, zq6q, zq89, zq9v, zq9u, popTo, zq6i, YP, t16n9, T16n9, zq8a, zq9x])
  refine ⟨fun hlt => ?_, fun hge => ?_⟩
  ·have hkn : k < n := by have := of_decide_eq_true hlt; omega
   refine loop_go (α := Nat) (fun i => i ≤ n) (fun _ => ⟨w, w.heap.size, [], 59, []⟩)
    (fun i => { F := [(0, .val (.int .i64 n)), (5, .own 0 0), (6, .val (.int .i64 k)), (7, .val (.int .i64 i))], H := [.own 38 0 1 (some ⟨g, 0, none⟩) n n (tabV gs n n)] ++ tabF 4 gs (mB l k i 0) n n }) (fun i => n - i) (fun _ => rfl) ?start2 ?round2
   case start2 =>
    intro a W rep
    refine ⟨0, Nat.zero_le _, ?_⟩
    have e0 : tabF 4 gs (mB l k 0 0) n n = tabF 4 gs (wsN l k) n n := tabF_congr fun a _ => ⟨rfl, fun b _ => mB_start l k a b⟩
    simp only [e0]
    exact Rep.few rep 1 (by (simp only [setn, List.nil_append, List.cons_append, leF, leH_nil, leH_cons, leF_nil, lk, scp, scpL, scpO, resF, resH, resO, resV, resVL, nth, Nat.reduceBEq, Nat.reduceLT, decide_true, decide_false, List.length, List.length_cons, List.length_nil, Nat.reduceAdd, Bool.and_self, Bool.and_true, and_true, true_and, numF] <;> try simp))
   case round2 =>
    rintro i hi I2 again2
    (refine Y_go 600 ?_; dsimp only [List.cons_append, List.nil_append, zq9y, t16n5, T16n5, zq9r, zq9q, Y_k, zq4u, zq8o, zq6n, Nat.reduceBEq, zq6l, zq6k, YK, zq8t, zq50, zq04, zq92, zq9b, zq0i, zq9e, zq9i, normF, zq6m, zq86, zq87, zq8f, zq9s, zq6h, zq8x, YC, zq9p, t16n4, T16n4, zq9t, zq8p, zq6q, zq89, zq9v, zq9u, popTo, zq6i, YP, zqa1, t16n6, T16n6, zq4w, zq0e, zq8a, zqa2])
    refine ⟨fun hlt => ?_, fun hge => ?_⟩
    ·have hin : i < n := by have := of_decide_eq_true hlt; omega
     refine loop_go (α := Nat) (fun j => j ≤ n) (fun _ => ⟨w, w.heap.size, [], 59, []⟩)
      (fun j => { F := [(0, .val (.int .i64 n)), (5, .own 0 0), (6, .val (.int .i64 k)), (7, .val (.int .i64 i)), (8, .val (.int .i64 j))], H := [.own 38 0 1 (some ⟨g, 0, none⟩) n n (tabV gs n n)] ++ tabF 4 gs (mB l k i j) n n }) (fun j => n - j) (fun _ => rfl) ?start3 ?round3
     case start3 =>
      intro a W rep
      exact ⟨0, Nat.zero_le _, Rep.few rep 1 (by (simp only [setn, List.nil_append, List.cons_append, leF, leH_nil, leH_cons, leF_nil, lk, scp, scpL, scpO, resF, resH, resO, resV, resVL, nth, Nat.reduceBEq, Nat.reduceLT, decide_true, decide_false, List.length, List.length_cons, List.length_nil, Nat.reduceAdd, Bool.and_self, Bool.and_true, and_true, true_and, numF] <;> try simp))⟩
     case round3 =>
      rintro j hj I3 again3
      have out : (∀ a b, a < n → b < n → mB l k i j a b = mB l k (i + 1) 0 a b) → ∀ a W, Rep ⟨w, w.heap.size, [], 59, []⟩ { F := [(0, .val (.int .i64 n)), (5, .own 0 0), (6, .val (.int .i64 k)), (7, .val (.int .i64 ((i + 1 : Nat) : Int)))], H := [.own 38 0 1 (some ⟨g, 0, none⟩) n n (tabV gs n n)] ++ tabF 4 gs (mB l k i j) n n } a W → I2 a W := fun he a W rep => by
       rw [tabF_congr (M' := mB l k (i + 1) 0) fun a ha => ⟨rfl, fun b hb => he a b ha hb⟩] at rep
       exact again2 (i + 1) hin (by omega) a W rep
      have ai : ArOk .add .i64 (i : Int) 1 ((i + 1 : Nat) : Int) := ArOk.to (by omega) (by omega) (by omega)
      by_cases hjn : j < n
      ·refine G.le (E' := ⟨w, w.heap.size, [], 59, []⟩) rfl (s' := { F := [(0, .val (.int .i64 n)), (5, .own 0 0), (6, .val (.int .i64 k)), (7, .val (.int .i64 i)), (8, .val (.int .i64 j))], H := [.own 38 0 1 (some ⟨g, 0, none⟩) n n (tabV gs n n), .own 4 0 1 (some ⟨gs i, 0, none⟩) n n (rwV n (mB l k i j i))] ++ tabX 4 gs (mB l k i j) n n i }) (fun a W rep => Rep.fam' (b := [.own 38 0 1 (some ⟨g, 0, none⟩) n n (tabV gs n n)]) rep (by (simp only [setn, List.nil_append, List.cons_append, leF, leH_nil, leH_cons, leF_nil, lk, scp, scpL, scpO, resF, resH, resO, resV, resVL, nth, Nat.reduceBEq, Nat.reduceLT, decide_true, decide_false, List.length, List.length_cons, List.length_nil, Nat.reduceAdd, Bool.and_self, Bool.and_true, and_true, true_and, numF] <;> try simp)) rfl (tabF_shut _ _ _ _ _) (tabF_out 4 gs (mB l k i j) n hin)) ?_
       refine G.cut rfl (by (simp only [setn, List.nil_append, List.cons_append, leF, leH_nil, leH_cons, leF_nil, lk, scp, scpL, scpO, resF, resH, resO, resV, resVL, nth, Nat.reduceBEq, Nat.reduceLT, decide_true, decide_false, List.length, List.length_cons, List.length_nil, Nat.reduceAdd, Bool.and_self, Bool.and_true, and_true, true_and, numF] <;> try simp)) fun W0 hW0 hov => ?_
       have bi : 0 ≤ (i : Int) ∧ (i : Int) < (n : Int) := ⟨by omega, by omega⟩
       have bj : 0 ≤ (j : Int) ∧ (j : Int) < (n : Int) := ⟨by omega, by omega⟩
       have bk : 0 ≤ (k : Int) ∧ (k : Int) < (n : Int) := ⟨by omega, by omega⟩
       have hti : (tabV gs n n)[(i : Int).toNat * 1]? = some (.slice (some ⟨gs i, 0, none⟩) n n) := by rw [Int.toNat_natCast, Nat.mul_one]; exact tabV_get hin
       have htk : (tabV gs n n)[(k : Int).toNat * 1]? = some (.slice (some ⟨gs k, 0, none⟩) n n) := by rw [Int.toNat_natCast, Nat.mul_one]; exact tabV_get hkn
       have hr : ∀ b, b < n → (rwV n (mB l k i j i))[((b : Nat) : Int).toNat * 1]? = some (.bool (mB l k i j i b)) := fun b hb => by rw [Int.toNat_natCast, Nat.mul_one]; exact rwV_get _ hb
       have hik := hr k hkn
       rw [mB_col] at hik
       have hij := hr j hjn
       rw [mB_here] at hij
       have back : ∀ (F : List (Nat × SV)) (f : Nat → Bool) (M' : Nat → Nat → Bool) (a : Act) (W : World), leF 1 F F → (∀ b, b < n → f b = M' i b) → (∀ a, a < n → a ≠ i → ∀ b, b < n → mB l k i j a b = M' a b) →
         Rep ⟨W0, W0.heap.size, fps [.own 38 0 1 (some ⟨g, 0, none⟩) n n (tabV gs n n), .own 4 0 1 (some ⟨gs i, 0, none⟩) n n (rwV n (mB l k i j i))], 59, []⟩ { F := F, H := [.own 38 0 1 (some ⟨g, 0, none⟩) n n (tabV gs n n), .own 4 0 1 (some ⟨gs i, 0, none⟩) n n (rwV n f)] } a W →
         Rep ⟨w, w.heap.size, [], 59, []⟩ { F := F, H := [.own 38 0 1 (some ⟨g, 0, none⟩) n n (tabV gs n n)] ++ tabF 4 gs M' n n } a W := fun F f M' a W hF h1 h2 rep => by
        have r2 := Rep.back hW0 (tabX_shut _ _ _ _ _ _) rep (Over.refl _) rfl rfl
        refine Rep.fam' (b := [.own 38 0 1 (some ⟨g, 0, none⟩) n n (tabV gs n n)]) (r := .own 4 0 1 (some ⟨gs i, 0, none⟩) n n (rwV n f) :: tabX 4 gs (mB l k i j) n n i) r2 hF rfl (fun e he => ?_) ?_
        ·rcases List.mem_cons.1 he with rfl | h
         ·rfl
         ·exact tabX_shut _ _ _ _ _ _ e h
        ·rw [rwV_congr h1]
         exact tabF_in 4 gs (M' := M') hin h2
       have aj : ArOk .add .i64 (j : Int) 1 ((j + 1 : Nat) : Int) := ArOk.to (by omega) (by omega) (by omega)
       have hlen : (j : Int).toNat * 1 + 1 ≤ (rwV n (mB l k i j i)).length := by rw [rwV_len, Int.toNat_natCast]; omega
       have hset : ∀ b, setn (rwV n (mB l k i j i)) ((j : Int).toNat * 1) (.bool b) = rwV n fun x => if x = j then b else mB l k i j i x := fun b => by rw [Int.toNat_natCast, Nat.mul_one]; exact rwV_set _ b hjn
       have next : ∀ (b : Bool), b = wsN l (k + 1) i j → ∀ (a : Act) (W : World), Rep ⟨W0, W0.heap.size, fps [.own 38 0 1 (some ⟨g, 0, none⟩) n n (tabV gs n n), .own 4 0 1 (some ⟨gs i, 0, none⟩) n n (rwV n (mB l k i j i))], 59, []⟩ { F := [(0, .val (.int .i64 n)), (5, .own 0 0), (6, .val (.int .i64 k)), (7, .val (.int .i64 i)), (8, .val (.int .i64 ((j + 1 : Nat) : Int)))], H := [.own 38 0 1 (some ⟨g, 0, none⟩) n n (tabV gs n n), .own 4 0 1 (some ⟨gs i, 0, none⟩) n n (rwV n fun x => if x = j then b else mB l k i j i x)] } a W → I3 a W := fun b hb a W rep =>
        again3 (j + 1) hjn (by omega) a W (back _ _ _ a W (by (simp only [setn, List.nil_append, List.cons_append, leF, leH_nil, leH_cons, leF_nil, lk, scp, scpL, scpO, resF, resH, resO, resV, resVL, nth, Nat.reduceBEq, Nat.reduceLT, decide_true, decide_false, List.length, List.length_cons, List.length_nil, Nat.reduceAdd, Bool.and_self, Bool.and_true, and_true, true_and, numF] <;> try simp)) (fun x _ => by rw [mB_step, hb]; by_cases q : x = j <;> simp [q]) (fun y _ hy x _ => by rw [mB_step, if_neg fun q => hy q.1]) rep)
       have cK : k ≠ i → RowE ⟨W0, W0.heap.size, fps [.own 38 0 1 (some ⟨g, 0, none⟩) n n (tabV gs n n), .own 4 0 1 (some ⟨gs i, 0, none⟩) n n (rwV n (mB l k i j i))], 59, []⟩ (some ⟨gs k, 0, none⟩) (rwV n (mB l k i j k)) := fun hne => hW0.offO (t := 4) (ver := 0) (sz := 1) (n := n) (c := n) (tabX_mem hkn hne) 59 []
       (refine Y_go 12 ?_; dsimp only [zq9y, t16n2, T16n2, zq9r, zq9q, Y_k, zq4u, zq8o, zq6n, Nat.reduceBEq, zq6l, zq6k, YK, zq8t, zq50, zq04, zq92, zq9b, zq0i, zq9e, Y_gk, zq6d, YR, zq69, zq58, zq06, zq0y, nth, zq09, zq08, zq0v, zq5c, zq1q, zq1n, zq1g, List.nil_append, zq1b, zq18, Y_0, YS, zq6b])
       refine ⟨fun _ => ?_, fun q => absurd (of_decide_eq_false q) (by omega)⟩
       refine ⟨bi, _, _, _, hti, G.fold 29 1 rfl rfl ?_⟩
       cases hv : wsN l k i k with
       | false =>
        rw [hv] at hik
        (refine Y_go 600 ?_; dsimp only [Y_gk, zq6n, Nat.reduceBEq, zq6l, zq6k, zq69, YR, zq4u, zq8o, YK, zq8t, zq58, zq06, zq0y, nth, zq09, zq08, zq0v, zq5c, zq1q, zq1n, zq1d, List.nil_append, zq1b, zq18, Y_k, zq4v, zq8p, zq6p, zq0b, zq9i, normF, zq6m, zq87, zq86, zq8f, zq9s, zq6h, zq8x, YC, zq9p, zq9y, t16n1, T16n1, zq9r, zq9t, zq9q, zq1g, zq0w, zq1p, zq6e, YS, zq6a, zq6o, zq5d, zq7v, zq7h, zq0a, zq6c, zq0c, zq7u, zq7g, zq9u, popTo, zq6i, YP, zqa1, t16n3, T16n3, zq4w, zq6q, zq04, zq92, zq9b, zq0e, zq8a, zqa2])
        refine ⟨bk, false, hik, fun q => absurd q (by decide), fun _ => ⟨_, ai, lend_rule fun a W rep => ?_⟩⟩
        have r1 : Rep ⟨W0, W0.heap.size, fps [.own 38 0 1 (some ⟨g, 0, none⟩) n n (tabV gs n n), .own 4 0 1 (some ⟨gs i, 0, none⟩) n n (rwV n (mB l k i j i))], 59, []⟩ { F := [(0, .val (.int .i64 n)), (5, .own 0 0), (6, .val (.int .i64 k)), (7, .val (.int .i64 ((i + 1 : Nat) : Int)))], H := [.own 38 0 1 (some ⟨g, 0, none⟩) n n (tabV gs n n), .own 4 0 1 (some ⟨gs i, 0, none⟩) n n (rwV n (mB l k i j i))] } a W := rep.le (by (simp only [setn, List.nil_append, List.cons_append, leF, leH_nil, leH_cons, leF_nil, lk, scp, scpL, scpO, resF, resH, resO, resV, resVL, nth, Nat.reduceBEq, Nat.reduceLT, decide_true, decide_false, List.length, List.length_cons, List.length_nil, Nat.reduceAdd, Bool.and_self, Bool.and_true, and_true, true_and, numF] <;> try simp)) (by (simp only [setn, List.nil_append, List.cons_append, leF, leH_nil, leH_cons, leF_nil, lk, scp, scpL, scpO, resF, resH, resO, resV, resVL, nth, Nat.reduceBEq, Nat.reduceLT, decide_true, decide_false, List.length, List.length_cons, List.length_nil, Nat.reduceAdd, Bool.and_self, Bool.and_true, and_true, true_and, numF] <;> try simp))
        exact out (fun a b _ _ => mB_skip hv j a b) a W (back _ _ _ a W (by (simp only [setn, List.nil_append, List.cons_append, leF, leH_nil, leH_cons, leF_nil, lk, scp, scpL, scpO, resF, resH, resO, resV, resVL, nth, Nat.reduceBEq, Nat.reduceLT, decide_true, decide_false, List.length, List.length_cons, List.length_nil, Nat.reduceAdd, Bool.and_self, Bool.and_true, and_true, true_and, numF] <;> try simp)) (fun b _ => rfl) (fun a _ _ b _ => rfl) r1)
       | true =>
        rw [hv] at hik
        (refine Y_go 15 ?_; dsimp only [Y_gk, zq6n, Nat.reduceBEq, zq6l, zq6k, zq69, YR, zq4u, zq8o, YK, zq8t, zq58, zq06, zq0y, nth, zq09, zq08, zq0v, zq5c, zq1q, zq1n, zq1d, List.nil_append, zq1b, zq18, Y_k, zq4v, zq8p, zq6p, zq0b, zq9i, normF, zq6m, zq87, zq86, zq8f, zq9s, zq6h, zq8x, YC, zq9p, zq9y, t16n1, T16n1, zq9r, zq9t, zq9q, zq1g, Y_0, zq9u, popTo, zq6i, YP, zqa1, t16n3, T16n3, zq4w, zq6q, zq04, zq92, zq9b, zq0e, zq8a, zqa2])
        refine ⟨bk, true, hik, fun _ => ⟨bi, _, _, _, hti, G.fold 39 1 rfl rfl ?_⟩, fun q => absurd q (by decide)⟩
        (refine Y_go 5 ?_; dsimp only [Y_k, zq4u, zq8o, zq6n, Nat.reduceBEq, zq6l, zq6k, YK, zq8t, zq58, zq06, zq0y, nth, zq09, zq08, zq0v, zq5c, zq1q, zq1n, zq1g, List.nil_append, zq1b, zq18, Y_0])
        refine ⟨bi, _, _, _, hti, G.fold 44 1 rfl rfl ?_⟩
        have hw : wsN l (k + 1) i j = (wsN l k i j || wsN l k k j) := by
         show wst (wsN l k) k i j = _
         unfold wst; rw [hv]; simp
        cases hv2 : wsN l k i j with
        | true =>
         rw [hv2] at hij hw
         (refine Y_go 600 ?_; dsimp only [Y_k, zq4u, zq8o, zq6n, Nat.reduceBEq, zq6l, zq6k, YK, zq8t, zq58, zq06, zq0y, nth, zq09, zq08, zq0v, zq5c, zq1q, zq1n, zq1d, List.nil_append, zq1b, zq18, Y_gk, zq6e, YS, zq6a, zq4v, zq8p, zq6o, zq0b, zq5d, zq7v, zq7h, zq0a, zq1y, zq1w, denL, den, zq1v, splice, setn, zq8s, zq9i, normF, zq6m, zq89, zq86, zq87, zq8f, zqa1, zq9y, t16n0, T16n0, zq9q, zq4w, zq6q, zq04, zq92, zq9b, zq0e, zqa2, YR, zq6c, zq1g, zq0w, zq1p, zq0c, zq7u, zq7g])
         refine ⟨bj, true, hij, fun _ => ⟨bj, hlen, _, aj, lend_rule fun a W rep => next true (by rw [hw]; rfl) a W ?_⟩, fun q => absurd q (by decide)⟩
         rw [hset] at rep
         exact rep.le (by (simp only [setn, List.nil_append, List.cons_append, leF, leH_nil, leH_cons, leF_nil, lk, scp, scpL, scpO, resF, resH, resO, resV, resVL, nth, Nat.reduceBEq, Nat.reduceLT, decide_true, decide_false, List.length, List.length_cons, List.length_nil, Nat.reduceAdd, Bool.and_self, Bool.and_true, and_true, true_and, numF] <;> try simp)) (by (simp only [setn, List.nil_append, List.cons_append, leF, leH_nil, leH_cons, leF_nil, lk, scp, scpL, scpO, resF, resH, resO, resV, resVL, nth, Nat.reduceBEq, Nat.reduceLT, decide_true, decide_false, List.length, List.length_cons, List.length_nil, Nat.reduceAdd, Bool.and_self, Bool.and_true, and_true, true_and, numF] <;> try simp))
        | false =>
         rw [hv2] at hij hw
         rw [Bool.false_or] at hw
         (refine Y_go 8 ?_; dsimp only [Y_k, zq4u, zq8o, zq6n, Nat.reduceBEq, zq6l, zq6k, YK, zq8t, zq58, zq06, zq0y, nth, zq09, zq08, zq0v, zq5c, zq1q, zq1n, zq1d, List.nil_append, zq1b, zq18, Y_gk, zq6e, YS, zq6a, Y_0, YR, zq6c, zq1g])
         refine ⟨bj, false, hij, fun q => absurd q (by decide), fun _ => ⟨bk, _, _, _, htk, ?_⟩⟩
         by_cases hki : k = i
         ·subst hki
          refine G.fold 52 1 rfl rfl ?_
          (refine Y_go 600 ?_; dsimp only [Y_gk, zq6n, Nat.reduceBEq, zq6l, zq6k, zq6c, YR, zq4u, zq8o, YK, zq8t, zq58, zq06, zq0y, nth, zq09, zq08, zq0v, zq5c, zq1q, zq1n, zq1d, List.nil_append, zq1b, zq18, Y_k, zq4v, zq8p, zq6o, zq0c, zq5d, zq7u, zq7g, zq0a, zq1y, zq1w, denL, den, zq1v, splice, setn, zq8s, zq9i, normF, zq6m, zq89, zq86, zq87, zq8f, zqa1, zq9y, t16n0, T16n0, zq9q, zq4w, zq6q, zq04, zq92, zq9b, zq0e, zqa2])
          refine ⟨bj, false, hij, bj, hlen, _, aj, lend_rule fun a W rep => next false (by rw [hw, hv2]) a W ?_⟩
          rw [hset] at rep
          exact rep.le (by (simp only [setn, List.nil_append, List.cons_append, leF, leH_nil, leH_cons, leF_nil, lk, scp, scpL, scpO, resF, resH, resO, resV, resVL, nth, Nat.reduceBEq, Nat.reduceLT, decide_true, decide_false, List.length, List.length_cons, List.length_nil, Nat.reduceAdd, Bool.and_self, Bool.and_true, and_true, true_and, numF] <;> try simp)) (by (simp only [setn, List.nil_append, List.cons_append, leF, leH_nil, leH_cons, leF_nil, lk, scp, scpL, scpO, resF, resH, resO, resV, resVL, nth, Nat.reduceBEq, Nat.reduceLT, decide_true, decide_false, List.length, List.length_cons, List.length_nil, Nat.reduceAdd, Bool.and_self, Bool.and_true, and_true, true_and, numF] <;> try simp))
         ·have ck : CellAt ⟨W0, W0.heap.size, fps [.own 38 0 1 (some ⟨g, 0, none⟩) n n (tabV gs n n), .own 4 0 1 (some ⟨gs i, 0, none⟩) n n (rwV n (mB l k i j i))], 59, []⟩ (some ⟨gs k, 0, none⟩) ((j : Int).toNat * 1) (.bool (wsN l k k j)) := by
           rw [Int.toNat_natCast, Nat.mul_one, ← mB_row l k i j j]; exact (cK hki).cell (rwV_get _ hjn)
          (refine Y_go 600 ?_; dsimp only [Y_gk, zq6n, Nat.reduceBEq, zq6l, zq6k, zq6c, YR, zq4u, zq8o, YK, zq8t, zq58, zq06, zq0w, zq5c, zq1p, zq1d, List.nil_append, zq1b, zq18, Y_k, zq4v, zq8p, zq6o, zq0c, zq0y, nth, zq09, zq08, zq0v, zq5d, zq7u, zq7g, zq0a, zq1y, zq1w, denL, den, zq1v, splice, setn, zq8s, zq9i, normF, zq6m, zq89, zq86, zq87, zq8f, zqa1, zq9y, t16n0, T16n0, zq9q, zq4w, zq6q, zq04, zq92, zq9b, zq0e, zqa2])
          refine ⟨⟨by omega, by omega, rfl⟩, _, ck, bj, hlen, _, aj, lend_rule fun a W rep => next (wsN l k k j) (by rw [hw]) a W ?_⟩
          rw [hset] at rep
          exact rep.le (by (simp only [setn, List.nil_append, List.cons_append, leF, leH_nil, leH_cons, leF_nil, lk, scp, scpL, scpO, resF, resH, resO, resV, resVL, nth, Nat.reduceBEq, Nat.reduceLT, decide_true, decide_false, List.length, List.length_cons, List.length_nil, Nat.reduceAdd, Bool.and_self, Bool.and_true, and_true, true_and, numF] <;> try simp)) (by (simp only [setn, List.nil_append, List.cons_append, leF, leH_nil, leH_cons, leF_nil, lk, scp, scpL, scpO, resF, resH, resO, resV, resVL, nth, Nat.reduceBEq, Nat.reduceLT, decide_true, decide_false, List.length, List.length_cons, List.length_nil, Nat.reduceAdd, Bool.and_self, Bool.and_true, and_true, true_and, numF] <;> try simp))
      ·have hje : j = n := by omega
       subst hje
       (refine Y_go 600 ?_; dsimp only [List.cons_append, List.nil_append, zq9y, t16n2, T16n2, zq9r, zq9q, Y_k, zq4u, zq8o, zq6n, Nat.reduceBEq, zq6l, zq6k, YK, zq8t, zq50, zq04, zq92, zq9b, zq0i, zq9e, Y_gk, zq6d, YR, zq69, zq58, zq06, zq0y, nth, zq09, zq08, zq0v, zq5c, zq1q, zq1n, zq1g, zq1b, zq18, zq0w, zq1p, zq1d, zq4v, zq8p, zq6p, zq0b, zq9i, normF, zq6m, zq87, zq86, zq8f, zq9s, zq6h, zq8x, YC, zq9p, t16n1, T16n1, zq9t, zq6e, YS, zq6a, zq6o, zq5d, zq7v, zq7h, zq0a, zq6c, zq0c, zq7u, zq7g, zq9u, popTo, zq6i, YP, zqa1, t16n3, T16n3, zq4w, zq6q, zq0e, zq8a, zqa2, zq6b, zq6g])
       refine ⟨fun q => absurd (of_decide_eq_true q) (by omega), fun _ => ⟨_, ai, lend_rule fun a W rep => out (fun a b _ hb => mB_end l k i a hb) a W (Rep.few rep 1 (by (simp only [setn, List.nil_append, List.cons_append, leF, leH_nil, leH_cons, leF_nil, lk, scp, scpL, scpO, resF, resH, resO, resV, resVL, nth, Nat.reduceBEq, Nat.reduceLT, decide_true, decide_false, List.length, List.length_cons, List.length_nil, Nat.reduceAdd, Bool.and_self, Bool.and_true, and_true, true_and, numF] <;> try simp)))⟩⟩
    ·have hie : i = n := by have := of_decide_eq_false hge; omega
     subst hie
     refine ⟨((k + 1 : Nat) : Int), ArOk.to (by omega) (by omega) (by omega), lend_rule fun a W rep => again (k + 1) hkn (by omega) a W ?_⟩
     have e0 : tabF 4 gs (mB l k i 0) i i = tabF 4 gs (wsN l (k + 1)) i i := tabF_congr fun a ha => ⟨rfl, fun b _ => mB_done l k b ha⟩
     rw [e0] at rep
     exact Rep.few rep 1 (by (simp only [setn, List.nil_append, List.cons_append, leF, leH_nil, leH_cons, leF_nil, lk, scp, scpL, scpO, resF, resH, resO, resV, resVL, nth, Nat.reduceBEq, Nat.reduceLT, decide_true, decide_false, List.length, List.length_cons, List.length_nil, Nat.reduceAdd, Bool.and_self, Bool.and_true, and_true, true_and, numF] <;> try simp))
  ·have hke : k = n := by have := of_decide_eq_false hge; omega
   subst hke
   exact ret_rule (vs := [.slice (some ⟨g, 0, none⟩) k k]) r16 rfl rfl fun W hW => hR _ _ ⟨g, gs, rfl, ⟨hW.keep, hW.floor, hW.ents, hW.fresh, hW.dist⟩⟩
end Go.Proofs.Ytbkpiljencaoeaa
