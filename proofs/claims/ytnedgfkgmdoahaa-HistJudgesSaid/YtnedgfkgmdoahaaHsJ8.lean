/- shuntref12.Word. -/
import Derived.Test.YtnedgfkgmdoahaaHsJ7
import Derived.Test.YtnedgfkgmdoahaaHsPlain
import Derived.Test.YtnedgfkgmdoahaaHsX6
import Derived.Test.YtnedgfkgmdoahaaHsCodeJ
set_option linter.unusedSimpArgs false
set_option linter.unusedVariables false
set_option linter.unnecessarySimpa false
namespace Go.Proofs.Ytnedgfkgmdoahaa
open Go Go.Sx Go.Hs
set_option maxRecDepth 100000
theorem findI_lt {l : List Pr} {a : Int} (h : findI l a ≥ 0) : (findI l a).toNat < l.length := by
 unfold findI at h ⊢
 cases hf : findN l a with
 | none => rw [hf] at h; simp at h
 | some i => simpa using (findN_some hf).1
theorem word65 (A B A' : Option Addr) (c bc c' : Nat) (h : List Ev) (z : List (At × Hd)) (first : List Int) (a : Int) (n : Nat) (w : World) (hA : RowAt w A (cellsE h)) (hB : RowAt w B (cellsTs z)) (hat : AttAt w z) (hF : RowAt w A' (first.map uV))
  (ha : 0 ≤ a) (hn : n ≤ h.length) (hl : h.length ≤ 1000) (hz : z.length ≤ 1000) (hp : ∀ p ∈ z, p.1.stores.length ≤ 1000) (hfl : first.length ≤ 100000) :
  CallsV Try.prog 65 [.slice A h.length c, .slice B z.length bc, .slice A' first.length c', .int .i64 a, .int .i64 n] w fun v w' => v = .int .u64 (wordTo h (z.map (·.1)) first a n) ∧ Fresh w w' := by
 refine calls_go (keep := K65) (nt := 89) (svs := [.val (.slice A h.length c), .val (.slice B z.length bc), .val (.slice A' first.length c'), .val (.int .i64 a), .val (.int .i64 n)]) Try.func65 x65 n65 (by simp) (by simp [IsL, Is]) fun R hR => ?_
 generalize hls : z.map (·.1) = ls at *
 have hll : ls.length = z.length := by rw [← hls, List.length_map]
 have main2 : ∀ v, v = firF first a → ∀ F, leF 0 F [(0, .val (.slice A h.length c)), (1, .val (.slice B z.length bc)), (3, .val (.int .i64 a)), (4, .val (.int .i64 n)), (11, .val (.int .u64 v)), (12, .val (.int .i64 0))] → G (cxOf Try.prog Try.f65 K65 T65 R) ⟨w, w.heap.size, [], 89, []⟩ [.code (XC.ref 10).loop, .blk 0, .code (.ref 11)] { F := F, H := [] } := by
  intro v hv F hF
  refine G.le (E' := ⟨w, w.heap.size, [], 89, []⟩) (s' := { F := [(0, .val (.slice A h.length c)), (1, .val (.slice B z.length bc)), (3, .val (.int .i64 a)), (4, .val (.int .i64 n)), (11, .val (.int .u64 v)), (12, .val (.int .i64 0))], H := [] }) rfl (fun a W rep => rep.le hF (by (simp only [setn, List.nil_append, List.cons_append, leF, leH_nil, leH_cons, leF_nil, lk, scp, scpL, scpO, resF, resH, resO, resV, resVL, nth, Nat.reduceBEq, Nat.reduceLT, decide_true, decide_false, List.length, List.length_cons, List.length_nil, Nat.reduceAdd, Bool.and_self, Bool.and_true, and_true, true_and, numF] <;> try simp))) ?_
  refine loop_go (α := Nat) (fun k => k ≤ n) (fun _ => ⟨w, w.heap.size, [], 89, []⟩)
   (fun k => { F := [(0, .val (.slice A h.length c)), (1, .val (.slice B z.length bc)), (3, .val (.int .i64 a)), (4, .val (.int .i64 n)), (11, .val (.int .u64 (wordTo h ls first a k))), (12, .val (.int .i64 k))], H := [] }) (fun k => n - k) (fun _ => rfl) ?start ?round
  case start =>
   intro q W rep
   exact ⟨0, Nat.zero_le _, rep.le (by (simp only [setn, List.nil_append, List.cons_append, leF, leH_nil, leH_cons, leF_nil, lk, scp, scpL, scpO, resF, resH, resO, resV, resVL, nth, Nat.reduceBEq, Nat.reduceLT, decide_true, decide_false, List.length, List.length_cons, List.length_nil, Nat.reduceAdd, Bool.and_self, Bool.and_true, and_true, true_and, numF] <;> try simp); exact hv) (by (simp only [setn, List.nil_append, List.cons_append, leF, leH_nil, leH_cons, leF_nil, lk, scp, scpL, scpO, resF, resH, resO, resV, resVL, nth, Nat.reduceBEq, Nat.reduceLT, decide_true, decide_false, List.length, List.length_cons, List.length_nil, Nat.reduceAdd, Bool.and_self, Bool.and_true, and_true, true_and, numF] <;> try simp))⟩
  case round =>
   intro k hk I again
   have hk : k ≤ n := hk
   (refine Y_go 600 ?_; dsimp only [zq9y, t65n10, T65n10, zq9r, zq9q, Y_k, zq4u, zq8o, zq6n, Nat.reduceBEq, zq6l, zq6k, YK, zq8t, zq50, zq04, zq92, zq9b, zq0i, zq9e, zq9i, normF, zq6m, zq86, zq87, zq9s, zq6h, zq8x, YC, zq9p, t65n9, T65n9, zq9t, zq58, zq06, zq0w, zq5a, zq16, Nat.add_zero, zq5c, zq1p, zq1c, List.nil_append, zq1b, zq18, zq8p, zq6q, zq9c, Y_gk, zq6d, YR, zq69, zq4v, zq6p, zq0b, zq89, t65n1, T65n1, t65n7, T65n7, zq9v, zq8a, YS, zq6b, zq0c, zq6g, zq9u, popTo, zq6i, YP, t65n11, T65n11, zq9x])
   refine ⟨fun hlt => ?_, fun hge => ?_⟩
   rotate_left
   ·have hil : k = n := by have := of_decide_eq_false hge; omega
    subst hil
    exact ret_rule (vs := [.int .u64 (wordTo h ls first a k)]) r65 rfl rfl fun W hW => hR _ _ ⟨rfl, hW.fresh'⟩
   have hlt : k < n := by have := of_decide_eq_true hlt; omega
   have hA9 : RowE ⟨w, w.heap.size, [], 89, []⟩ A (cellsE h) := rowE0 hA 89 []
   have hkh : k < h.length := by omega
   have cl : ∀ q v, (evA h k).cells[q]? = some v → CellAt ⟨w, w.heap.size, [], 89, []⟩ A ((k : Int).toNat * 9 + q) v := fun q v hq => evCell hA9 hkh q v hq
   have hsA : A.isSome = true := hA.isSome (j := k * 9) (by rw [cellsE_len]; omega)
   have hbk : 0 ≤ (k : Int) ∧ (k : Int) < (h.length : Int) ∧ A.isSome = true := ⟨by omega, by omega, hsA⟩
   have haddk : ArOk .add .i64 (k : Int) 1 ((k + 1 : Nat) : Int) := ArOk.to (by omega) (by omega) (by omega)
   have inn : ∀ v, v = wrW h a k (wordTo h ls first a k) → ∀ F, leF 0 F [(0, .val (.slice A h.length c)), (1, .val (.slice B z.length bc)), (3, .val (.int .i64 a)), (4, .val (.int .i64 n)), (11, .val (.int .u64 v)), (12, .val (.int .i64 k)), (13, .val (.int .i64 0))] →
     G (cxOf Try.prog Try.f65 K65 T65 R) ⟨w, w.heap.size, [], 89, []⟩ [.code (XC.ref 6).loop, .blk 2, .blk 1, .code (.ref 8), .lend I, .blk 0, .code (.ref 11)] { F := F, H := [] } := by
    intro v hv F hF
    refine G.le (E' := ⟨w, w.heap.size, [], 89, []⟩) (s' := { F := [(0, .val (.slice A h.length c)), (1, .val (.slice B z.length bc)), (3, .val (.int .i64 a)), (4, .val (.int .i64 n)), (11, .val (.int .u64 v)), (12, .val (.int .i64 k)), (13, .val (.int .i64 0))], H := [] }) rfl (fun a W rep => rep.le hF (by (simp only [setn, List.nil_append, List.cons_append, leF, leH_nil, leH_cons, leF_nil, lk, scp, scpL, scpO, resF, resH, resO, resV, resVL, nth, Nat.reduceBEq, Nat.reduceLT, decide_true, decide_false, List.length, List.length_cons, List.length_nil, Nat.reduceAdd, Bool.and_self, Bool.and_true, and_true, true_and, numF] <;> try simp))) ?_
    refine loop_go (α := Nat) (fun i => i ≤ z.length) (fun _ => ⟨w, w.heap.size, [], 89, []⟩)
     (fun i => { F := [(0, .val (.slice A h.length c)), (1, .val (.slice B z.length bc)), (3, .val (.int .i64 a)), (4, .val (.int .i64 n)), (11, .val (.int .u64 ((ls.take i).foldl (fun v x => putW x a k v) v))), (12, .val (.int .i64 k)), (13, .val (.int .i64 i))], H := [] }) (fun i => z.length - i) (fun _ => rfl) ?start2 ?round2
    case start2 =>
     intro q W rep
     exact ⟨0, Nat.zero_le _, rep.le (by (simp only [setn, List.nil_append, List.cons_append, leF, leH_nil, leH_cons, leF_nil, lk, scp, scpL, scpO, resF, resH, resO, resV, resVL, nth, Nat.reduceBEq, Nat.reduceLT, decide_true, decide_false, List.length, List.length_cons, List.length_nil, Nat.reduceAdd, Bool.and_self, Bool.and_true, and_true, true_and, numF] <;> try simp)) (by (simp only [setn, List.nil_append, List.cons_append, leF, leH_nil, leH_cons, leF_nil, lk, scp, scpL, scpO, resF, resH, resO, resV, resVL, nth, Nat.reduceBEq, Nat.reduceLT, decide_true, decide_false, List.length, List.length_cons, List.length_nil, Nat.reduceAdd, Bool.and_self, Bool.and_true, and_true, true_and, numF] <;> try simp))⟩
    case round2 =>
     intro i hi I2 again2
     have hi : i ≤ z.length := hi
     (refine Y_go 600 ?_; dsimp only [zq9y, t65n6, T65n6, zq9r, zq9q, Y_k, zq4u, zq8o, zq6n, Nat.reduceBEq, zq6l, zq6k, YK, zq8t, zq55, zq0r, zq50, zq04, zq92, zq9b, zq0i, zq9e, zq9i, normF, zq6m, zq86, zq87, zq9s, zq6h, zq8x, YC, zq9p, t65n5, T65n5, zq9t, zq58, zq06, zq0w, zq5a, zq16, zq5c, zq1p, zq1g, List.nil_append, zq1b, zq18, zq9j, zq9u, popTo, zq6i, YP, zqa1, t65n8, T65n8, zq4w, zq8p, zq6q, zq0e, zq8a, zqa2])
     refine ⟨fun hlt2 => ?_, fun hge => ?_⟩
     rotate_left
     ·have hil : i = z.length := by have := of_decide_eq_false hge; omega
      subst hil
      refine ⟨_, haddk, lend_rule fun q W rep => again (k + 1) hlt (by show n - (k + 1) < n - k; omega) q W (rep.le (by (simp only [setn, List.nil_append, List.cons_append, leF, leH_nil, leH_cons, leF_nil, lk, scp, scpL, scpO, resF, resH, resO, resV, resVL, nth, Nat.reduceBEq, Nat.reduceLT, decide_true, decide_false, List.length, List.length_cons, List.length_nil, Nat.reduceAdd, Bool.and_self, Bool.and_true, and_true, true_and, numF] <;> try simp); simp only [wordTo, wS]; rw [List.take_of_length_le (by omega), hv]) (by (simp only [setn, List.nil_append, List.cons_append, leF, leH_nil, leH_cons, leF_nil, lk, scp, scpL, scpO, resF, resH, resO, resV, resVL, nth, Nat.reduceBEq, Nat.reduceLT, decide_true, decide_false, List.length, List.length_cons, List.length_nil, Nat.reduceAdd, Bool.and_self, Bool.and_true, and_true, true_and, numF] <;> try simp)))⟩
     have hlt2 : i < z.length := by have := of_decide_eq_true hlt2; omega
     have hzi : z[i]? = some z[i] := List.getElem?_eq_getElem hlt2
     have ct : ∀ q v, (cellsT z[i].1 z[i].2)[q]? = some v → CellAt ⟨w, w.heap.size, [], 89, []⟩ B ((i : Int).toNat * 11 + q) v := fun q v hq => by
      rw [Int.toNat_natCast]
      exact hB.cell (by rw [cellsTs_get z hlt2 (List.getElem?_eq_some_iff.1 hq).1]; exact hq)
     generalize z[i] = pz at hzi ct
     obtain ⟨x, hd⟩ := pz
     have hxm : (x, hd) ∈ z := List.mem_of_getElem? hzi
     have hxs := hp _ hxm
     have hst := (hat _ hxm).2
     have hsB : B.isSome = true := hB.isSome (j := i * 11) (by rw [cellsTs_len]; omega)
     have hbi : 0 ≤ (i : Int) ∧ (i : Int) < (z.length : Int) ∧ B.isSome = true := ⟨by omega, by omega, hsB⟩
     have haddi : ArOk .add .i64 (i : Int) 1 ((i + 1 : Nat) : Int) := ArOk.to (by omega) (by omega) (by omega)
     have htk : (ls.take (i + 1)).foldl (fun v x => putW x a k v) v = putW x a k ((ls.take i).foldl (fun v x => putW x a k v) v) := by
      rw [List.take_add_one, ← hls, List.getElem?_map, hzi, List.foldl_append]; rfl
     simp only at hxs hst
     refine ⟨hbi, hsB, _, _, _, ct 8 _ rfl, ?_⟩
     refine call_val (R := fun v => v = .int .i64 (findI x.stores a)) (vs := [.slice hd.sA x.stores.length hd.sc, .int .i64 a]) rfl (fun W hW => at72 hd.sA hd.sc x.stores a W (hst.keep hW.fresh') (by omega)) fun vv hvv => ⟨.val (.int .i64 (findI x.stores a)), by rw [hvv]; simp [Is], ?_⟩
     generalize (ls.take i).foldl (fun v x => putW x a k v) v = u at htk ⊢
     have nx : ∀ u', u' = putW x a k u → ∀ q W, Rep ⟨w, w.heap.size, [], 89, []⟩ { F := [(0, .val (.slice A h.length c)), (1, .val (.slice B z.length bc)), (3, .val (.int .i64 a)), (4, .val (.int .i64 n)), (11, .val (.int .u64 u')), (12, .val (.int .i64 k)), (13, .val (.int .i64 ((i + 1 : Nat) : Int)))], H := [] } q W → I2 q W := fun u' hu q W rep => by
      refine again2 (i + 1) hlt2 (by show z.length - (i + 1) < z.length - i; omega) q W ?_
      simp only [htk, ← hu]
      exact rep
     have p0 : ¬ (x.point = k ∧ x.com = true ∧ findI x.stores a ≥ 0) → u = putW x a k u := fun hh => by unfold putW; rw [if_neg hh]
     (refine Y_go 600 ?_; dsimp only [zq8t, Y_k, zq4u, zq8o, zq6n, Nat.reduceBEq, zq6k, YK, zq9i, normF, zq6l, zq6m, zq86, zq89, zq87, zq9y, t65n3, T65n3, zq9r, zq9q, zq58, zq06, zq0w, zq5a, zq16, zq5c, zq1p, zq1c, List.nil_append, zq1b, zq18, zq50, zq04, zq92, zq9b, zq0i, zq9c, Y_gk, zq6d, YR, zq69, zq1d, zq4v, zq8p, zq6p, zq0b, zq6q, zq9h, zq9s, zq6h, zq8x, YC, t65n2, T65n2, zq1g, zqa1, t65n4, T65n4, zq4w, zq0e, zqa2, zq9p, zq8a, YS, zq6b, zq0c, zq6g])
     refine ⟨hbi, hsB, _, ct 5 _ rfl, fun e1 => ⟨hbi, hsB, _, ct 9 _ rfl, fun e2 => ⟨fun e3 => ?_, fun e3 => ?_⟩, fun e2 => ?_⟩, fun e1 => ?_⟩
     ·have e3 := of_decide_eq_true e3
      have e2 : x.com = true := e2
      have hj := findI_lt e3
      have cs : CellAt ⟨w, w.heap.size, [], 89, []⟩ hd.sA ((findI x.stores a).toNat * 2 + 1) (.int .u64 (x.stores.getD (findI x.stores a).toNat (0, 0)).2) := hst.cell (by rw [cellsPr_get x.stores hj (by omega), ← prs_get hj]; rfl)
      have hjl : findI x.stores a < (x.stores.length : Int) := by omega
      have h2 : (x.stores.getD (findI x.stores a).toNat (0, 0)).2 = putW x a k u := by unfold putW; rw [if_pos ⟨by simpa using e1, e2, e3⟩]
      refine ⟨hbi, hsB, hd.sA, x.stores.length, hd.sc, ct 8 _ rfl, ⟨e3, hjl, hst.isSome (j := (findI x.stores a).toNat * 2) (by rw [cellsPr_len]; omega)⟩, hst.isSome (j := (findI x.stores a).toNat * 2) (by rw [cellsPr_len]; omega), _, cs, _, haddi, lend_rule fun q W rep => nx _ h2 q W (rep.le (by (simp only [setn, List.nil_append, List.cons_append, leF, leH_nil, leH_cons, leF_nil, lk, scp, scpL, scpO, resF, resH, resO, resV, resVL, nth, Nat.reduceBEq, Nat.reduceLT, decide_true, decide_false, List.length, List.length_cons, List.length_nil, Nat.reduceAdd, Bool.and_self, Bool.and_true, and_true, true_and, numF] <;> try simp)) (by (simp only [setn, List.nil_append, List.cons_append, leF, leH_nil, leH_cons, leF_nil, lk, scp, scpL, scpO, resF, resH, resO, resV, resVL, nth, Nat.reduceBEq, Nat.reduceLT, decide_true, decide_false, List.length, List.length_cons, List.length_nil, Nat.reduceAdd, Bool.and_self, Bool.and_true, and_true, true_and, numF] <;> try simp)))⟩
     ·exact ⟨_, haddi, lend_rule fun q W rep => nx u (p0 fun hh => absurd hh.2.2 (of_decide_eq_false e3)) q W (rep.le (by (simp only [setn, List.nil_append, List.cons_append, leF, leH_nil, leH_cons, leF_nil, lk, scp, scpL, scpO, resF, resH, resO, resV, resVL, nth, Nat.reduceBEq, Nat.reduceLT, decide_true, decide_false, List.length, List.length_cons, List.length_nil, Nat.reduceAdd, Bool.and_self, Bool.and_true, and_true, true_and, numF] <;> try simp)) (by (simp only [setn, List.nil_append, List.cons_append, leF, leH_nil, leH_cons, leF_nil, lk, scp, scpL, scpO, resF, resH, resO, resV, resVL, nth, Nat.reduceBEq, Nat.reduceLT, decide_true, decide_false, List.length, List.length_cons, List.length_nil, Nat.reduceAdd, Bool.and_self, Bool.and_true, and_true, true_and, numF] <;> try simp)))⟩
     ·exact ⟨_, haddi, lend_rule fun q W rep => nx u (p0 fun hh => by rw [hh.2.1] at e2; cases e2) q W (rep.le (by (simp only [setn, List.nil_append, List.cons_append, leF, leH_nil, leH_cons, leF_nil, lk, scp, scpL, scpO, resF, resH, resO, resV, resVL, nth, Nat.reduceBEq, Nat.reduceLT, decide_true, decide_false, List.length, List.length_cons, List.length_nil, Nat.reduceAdd, Bool.and_self, Bool.and_true, and_true, true_and, numF] <;> try simp)) (by (simp only [setn, List.nil_append, List.cons_append, leF, leH_nil, leH_cons, leF_nil, lk, scp, scpL, scpO, resF, resH, resO, resV, resVL, nth, Nat.reduceBEq, Nat.reduceLT, decide_true, decide_false, List.length, List.length_cons, List.length_nil, Nat.reduceAdd, Bool.and_self, Bool.and_true, and_true, true_and, numF] <;> try simp)))⟩
     ·exact ⟨_, haddi, lend_rule fun q W rep => nx u (p0 fun hh => by rw [hh.1] at e1; simp at e1) q W (rep.le (by (simp only [setn, List.nil_append, List.cons_append, leF, leH_nil, leH_cons, leF_nil, lk, scp, scpL, scpO, resF, resH, resO, resV, resVL, nth, Nat.reduceBEq, Nat.reduceLT, decide_true, decide_false, List.length, List.length_cons, List.length_nil, Nat.reduceAdd, Bool.and_self, Bool.and_true, and_true, true_and, numF] <;> try simp)) (by (simp only [setn, List.nil_append, List.cons_append, leF, leH_nil, leH_cons, leF_nil, lk, scp, scpL, scpO, resF, resH, resO, resV, resVL, nth, Nat.reduceBEq, Nat.reduceLT, decide_true, decide_false, List.length, List.length_cons, List.length_nil, Nat.reduceAdd, Bool.and_self, Bool.and_true, and_true, true_and, numF] <;> try simp)))⟩
   have h8 : wrW h a k (wordTo h ls first a k) = if (evA h k).kind = 8 ∧ (evA h k).addr = a then (evA h k).value else wordTo h ls first a k := rfl
   refine ⟨hbk, hsA, _, cl 0 _ rfl, fun e1 => ⟨hbk, hsA, _, cl 6 _ rfl, fun e2 => ⟨hbk, hsA, _, cl 7 _ rfl, inn (evA h k).value ?_ _ (by (simp only [setn, List.nil_append, List.cons_append, leF, leH_nil, leH_cons, leF_nil, lk, scp, scpL, scpO, resF, resH, resO, resV, resVL, nth, Nat.reduceBEq, Nat.reduceLT, decide_true, decide_false, List.length, List.length_cons, List.length_nil, Nat.reduceAdd, Bool.and_self, Bool.and_true, and_true, true_and, numF] <;> try simp))⟩, fun e2 => inn (wordTo h ls first a k) ?_ _ (by (simp only [setn, List.nil_append, List.cons_append, leF, leH_nil, leH_cons, leF_nil, lk, scp, scpL, scpO, resF, resH, resO, resV, resVL, nth, Nat.reduceBEq, Nat.reduceLT, decide_true, decide_false, List.length, List.length_cons, List.length_nil, Nat.reduceAdd, Bool.and_self, Bool.and_true, and_true, true_and, numF] <;> try simp))⟩, fun e1 => inn (wordTo h ls first a k) ?_ _ (by (simp only [setn, List.nil_append, List.cons_append, leF, leH_nil, leH_cons, leF_nil, lk, scp, scpL, scpO, resF, resH, resO, resV, resVL, nth, Nat.reduceBEq, Nat.reduceLT, decide_true, decide_false, List.length, List.length_cons, List.length_nil, Nat.reduceAdd, Bool.and_self, Bool.and_true, and_true, true_and, numF] <;> try simp))⟩
   ·rw [h8, if_pos ⟨by simpa using e1, by simpa using e2⟩]
   ·rw [h8, if_neg fun hh => by rw [hh.2] at e2; simp at e2]
   ·rw [h8, if_neg fun hh => by rw [hh.1] at e1; simp at e1]
 (refine Y_go 600 ?_; dsimp only [X65, numF, Nat.reduceAdd, zq9r, zq9q, Y_k, zq4u, zq8p, zq6q, YK, zq8t, zq9i, normF, zq6n, Nat.reduceBEq, zq6l, zq6k, zq6m, zq86, zq87, zq9y, t65n14, T65n14, t65n13, T65n13, zq8o, zq55, zq0r, zq50, zq04, zq92, zq9b, zq0i, zq9e, zq9s, zq6h, zq8x, YC, t65n0, T65n0, zq58, zq06, zq0w, zq5c, zq1p, zq1c, List.nil_append, zq1b, zq18, zq89, t65n12, T65n12, zq9t, zq9v, zq9p, zq8a])
 refine ⟨fun h1 => ?_, fun h1 => ?_⟩
 ·have h1 := of_decide_eq_true h1
  have hal : a.toNat < first.length := by omega
  have c0 : CellAt ⟨w, w.heap.size, [], 89, []⟩ A' (a.toNat * 1) (.int .u64 (first.getD a.toNat 0)) := hF.cell (by rw [Nat.mul_one]; exact uV_get hal)
  refine ⟨⟨ha, h1, hF.isSome (j := a.toNat) (by simpa using hal)⟩, _, c0, main2 (first.getD a.toNat 0) ?_ _ (by (simp only [setn, List.nil_append, List.cons_append, leF, leH_nil, leH_cons, leF_nil, lk, scp, scpL, scpO, resF, resH, resO, resV, resVL, nth, Nat.reduceBEq, Nat.reduceLT, decide_true, decide_false, List.length, List.length_cons, List.length_nil, Nat.reduceAdd, Bool.and_self, Bool.and_true, and_true, true_and, numF] <;> try simp))⟩
  unfold firF; rw [if_pos ⟨ha, h1⟩]
 ·have h1 := of_decide_eq_false h1
  exact main2 0 (by unfold firF; rw [if_neg (by omega)]) _ (by (simp only [setn, List.nil_append, List.cons_append, leF, leH_nil, leH_cons, leF_nil, lk, scp, scpL, scpO, resF, resH, resO, resV, resVL, nth, Nat.reduceBEq, Nat.reduceLT, decide_true, decide_false, List.length, List.length_cons, List.length_nil, Nat.reduceAdd, Bool.and_self, Bool.and_true, and_true, true_and, numF] <;> try simp))
end Go.Proofs.Ytnedgfkgmdoahaa
