/- graph.names: do pairs name a word? slices.IndexFunc and slices.ContainsFunc at pairs, of any function. -/
import Derived.Test.YtbkpiljencaoeaaGrT1
import Derived.Test.YtbkpiljencaoeaaGrCodeT
import Derived.Test.YtbkpiljencaoeaaGHsCode
set_option linter.unusedSimpArgs false
set_option linter.unusedVariables false
set_option linter.unnecessarySimpa false
namespace Go.Proofs.Ytbkpiljencaoeaa
open Go Go.Sx Go.Hs
set_option maxRecDepth 100000
theorem ok69 : fnOk Try.prog 69 = true := by kernel_rfl
theorem is69 (p : Pr) (a : Int) (C : Option Addr) (w : World) (hC : RowAt w C [.int .i64 a]) : CallsV Try.prog 69 [.agg (prV p).toArray, .pointer C] w fun v w' => v = .bool (p.1 == a) ∧ Fresh w w' := by
 refine calls_go (keep := K69) (nt := 8) (svs := [.agg [.val (.int .i64 p.1), .val (.int .u64 p.2)], .adr C 0]) Try.func69 x69 n69 (by simp) (by obtain ⟨c, rfl, _⟩ := hC 0 _ rfl; simp [IsL, Is, prV, Addr.add]) fun R hR => ?_
 (refine Y_go 600 ?_; dsimp only [X69, numF, Nat.reduceAdd, zq9r, zq9q, Y_k, zq5f, zq8o, zq6n, Nat.reduceBEq, zq6k, zq7t, List.length_cons, List.length_nil, zq8l, zq73, zq8m, zq8k, zq0a, zq1z, List.nil_append, YK, zq8t, zq4u, zq8p, zq6p, zq9i, normF, zq6l, zq8a, zq8c, zq8d, zq88, zq9y, t69n0, T69n0, zq5a, zq14, Nat.add_zero, zq5c, zq1o, nth, zq1k, dropL, takeL, zq19, zq18, zq1p, zq1c, zq1b, zq50, zq04, zq92, zq9b, zq0i, zq9c, zq87, zq9x])
 intro g1
 refine ⟨_, hC.cell (j := 0) rfl, ?_⟩
 exact ret_rule (vs := [.bool _]) r69 rfl rfl fun W hW => hR _ _ ⟨rfl, hW.fresh'⟩
def idxP (P : Pr → Bool) (l : List Pr) : Int := if l.any P then ((l.findIdx P : Nat) : Int) else -1
theorem idxP_at {P : Pr → Bool} {l : List Pr} {i : Nat} (hi : i < l.length) (h : ∀ p ∈ l.take i, P p = false) (hp : P l[i] = true) : idxP P l = i := by
 unfold idxP
 rw [if_pos (List.any_eq_true.2 ⟨_, List.getElem_mem hi, hp⟩)]
 congr 1
 rw [List.findIdx_eq hi]
 refine ⟨hp, fun j hj => ?_⟩
 have hjl : j < l.length := by omega
 exact h l[j] (List.mem_of_getElem? (i := j) (by rw [List.getElem?_take, if_pos hj, List.getElem?_eq_getElem hjl]))
theorem idxP_none {P : Pr → Bool} {l : List Pr} (h : ∀ p ∈ l, P p = false) : idxP P l = -1 := by
 unfold idxP
 rw [if_neg]
 intro q
 obtain ⟨p, hp, h1⟩ := List.any_eq_true.1 q
 rw [h p hp] at h1; cases h1
theorem idxP_ge (P : Pr → Bool) (l : List Pr) : decide (idxP P l ≥ 0) = l.any P := by
 unfold idxP
 cases h : l.any P
 ·rfl
 ·simp
theorem index70 (A : Option Addr) (c : Nat) (l : List Pr) (f : FuncId) (caps : List Value) (P : Pr → Bool) (hok : fnOk Try.prog f = true) (w : World) (hA : RowAt w A (cellsPr l)) (hl : l.length ≤ 1000000)
  (hP : ∀ p ∈ l, ∀ W, Fresh w W → CallsV Try.prog f (.agg (prV p).toArray :: caps) W fun v W' => v = .bool (P p) ∧ Fresh W W') :
  CallsV Try.prog 70 [.slice A l.length c, .func (.func f) #[] caps.toArray] w fun v w' => v = .int .i64 (idxP P l) ∧ Fresh w w' := by
 refine calls_go (keep := K70) (nt := 19) (svs := [.val (.slice A l.length c), .val (.func (.func f) #[] caps.toArray)]) Try.func70 x70 n70 (by simp) (by simp [IsL, Is]) fun R hR => ?_
 (refine Y_go 600 ?_; dsimp only [X70, numF, Nat.reduceAdd, zq9r, zq9q, Y_k, zq4u, zq8p, zq6q, YK, zq8t, zq9i, normF, zq6n, Nat.reduceBEq, zq6l, zq6k, zq6m, zq86, zq87, zq9y, t70n6, T70n6, zq8o, zq55, zq0r, zq9t, zq9v])
 refine loop_go (α := Nat) (fun i => i ≤ l.length ∧ ∀ p ∈ l.take i, P p = false) (fun _ => ⟨w, w.heap.size, [], 19, []⟩)
  (fun i => { F := [(0, .val (.slice A l.length c)), (1, .val (.func (.func f) #[] caps.toArray)), (7, .val (.int .i64 l.length)), (8, .val (.int .i64 i))], H := [] }) (fun i => l.length - i) (fun _ => rfl) ?start ?round
 case start =>
  intro a' W rep
  refine ⟨0, ⟨Nat.zero_le _, by simp⟩, rep.le ?_ ?_⟩ <;> (simp only [setn, List.nil_append, List.cons_append, leF, leH_nil, leH_cons, leF_nil, lk, scp, scpL, scpO, resF, resH, resO, resV, resVL, nth, Nat.reduceBEq, Nat.reduceLT, decide_true, decide_false, List.length, List.length_cons, List.length_nil, Nat.reduceAdd, Bool.and_self, Bool.and_true, and_true, true_and, numF] <;> try simp)
 case round =>
  rintro i ⟨hi, hn⟩ I again
  (refine Y_go 600 ?_; dsimp only [zq9y, t70n4, T70n4, zq9r, zq9q, Y_k, zq50, zq8o, zq6n, Nat.reduceBEq, zq6l, zq6k, zq04, zq92, zq9b, zq0i, zq9e, YK, zq8t, zq9i, normF, zq6m, zq86, zq87, t70n3, T70n3, zq9s, zq6h, zq8x, YC, zq9p, t70n2, T70n2, zq9t, zq4u, zq89, t70n1, T70n1, zq58, zq06, zq0w, zq5c, zq1p, zq1c, List.nil_append, List.cons_append, zq1b, zq17, zq9k, zq9u, popTo, zq6i, YP, t70n5, T70n5, zq8p, zq6q, zq8a, zq9x])
  refine ⟨fun h => ?_, fun h => ?_⟩
  ·have hlt : i < l.length := by have := of_decide_eq_true h; omega
   have cl : ∀ k v, (prV l[i])[k]? = some v → CellAt ⟨w, w.heap.size, [], 19, []⟩ A ((i : Int).toNat * 2 + k) v := by
    intro k v hk
    have := (List.getElem?_eq_some_iff.1 hk).1
    rw [Int.toNat_natCast]
    exact hA.cell (by rw [cellsPr_get l hlt this]; exact hk)
   have htk : l.take (i + 1) = l.take i ++ [l[i]] := by rw [List.take_add_one, List.getElem?_eq_getElem hlt]; rfl
   have hat := fun hp => idxP_at (P := P) hlt hn hp
   have hm := List.getElem_mem hlt
   have sA : A.isSome = true := hA.isSome (j := i * 2) (by rw [cellsPr_len]; omega)
   generalize l[i] = p at cl htk hat hm
   refine ⟨⟨by omega, by omega, sA⟩, _, cl 0 _ rfl, _, cl 1 _ rfl, ?_⟩
   refine callv_val (R := fun v => v = .bool (P p)) (f := f) (fst := []) (caps := caps) (vs := [.agg (prV p).toArray]) rfl hok rfl (fun W hW => hP p hm W hW.fresh') fun v hv => ⟨.val (.bool (P p)), by rw [hv]; simp [Is], ?_⟩
   dsimp only [zq8t]
   (refine Y_go 600 ?_; dsimp only [zq9i, normF, zq6n, Nat.reduceBEq, zq6l, zq6k, zq6m, zq87, zq89, zq86, zq9s, zq8o, zq6h, zq8x, YC, zq9y, t70n0, T70n0, zq9r, zq9q, Y_k, zq4u, YK, zq8t, zq9x, zq9p, zqa1, zq4w, zq8p, zq6q, zq04, zq92, zq9b, zq0e, zq8a, zqa2])
   refine ⟨fun hb => ?_, fun hb => ⟨((i + 1 : Nat) : Int), ArOk.to (by omega) (by omega) (by omega), lend_rule fun a' W rep => again (i + 1) ⟨hlt, fun q hq => ?_⟩ (by omega) a' W (rep.le (by (simp only [setn, List.nil_append, List.cons_append, leF, leH_nil, leH_cons, leF_nil, lk, scp, scpL, scpO, resF, resH, resO, resV, resVL, nth, Nat.reduceBEq, Nat.reduceLT, decide_true, decide_false, List.length, List.length_cons, List.length_nil, Nat.reduceAdd, Bool.and_self, Bool.and_true, and_true, true_and, numF] <;> try simp)) (by (simp only [setn, List.nil_append, List.cons_append, leF, leH_nil, leH_cons, leF_nil, lk, scp, scpL, scpO, resF, resH, resO, resV, resVL, nth, Nat.reduceBEq, Nat.reduceLT, decide_true, decide_false, List.length, List.length_cons, List.length_nil, Nat.reduceAdd, Bool.and_self, Bool.and_true, and_true, true_and, numF] <;> try simp)))⟩⟩
   ·refine ret_rule (vs := [.int .i64 i]) r70 rfl rfl fun W hW => hR _ _ ⟨?_, hW.fresh'⟩
    rw [hat hb]; rfl
   ·rw [htk] at hq
    rcases List.mem_append.1 hq with h | h
    ·exact hn q h
    ·simp only [List.mem_singleton] at h; subst h; exact hb
  ·have hil : i = l.length := by have := of_decide_eq_false h; omega
   subst hil
   rw [List.take_of_length_le (Nat.le_refl _)] at hn
   refine ret_rule (vs := [.int .i64 (-1)]) r70 rfl rfl fun W hW => hR _ _ ⟨?_, hW.fresh'⟩
   rw [idxP_none hn]; rfl
theorem contains53 (A : Option Addr) (c : Nat) (l : List Pr) (f : FuncId) (caps : List Value) (P : Pr → Bool) (hok : fnOk Try.prog f = true) (w : World) (hA : RowAt w A (cellsPr l)) (hl : l.length ≤ 1000000)
  (hP : ∀ p ∈ l, ∀ W, Fresh w W → CallsV Try.prog f (.agg (prV p).toArray :: caps) W fun v W' => v = .bool (P p) ∧ Fresh W W') :
  CallsV Try.prog 53 [.slice A l.length c, .func (.func f) #[] caps.toArray] w fun v w' => v = .bool (l.any P) ∧ Fresh w w' := by
 refine calls_go (keep := K53) (nt := 9) (svs := [.val (.slice A l.length c), .val (.func (.func f) #[] caps.toArray)]) Try.func53 x53 n53 (by simp) (by simp [IsL, Is]) fun R hR => ?_
 (refine Y_go 600 ?_; dsimp only [X53, numF, Nat.reduceAdd, zq9r, zq9q, Y_k, zq4u, zq8p, zq6p, YK, zq8t, zq9i, normF, zq6n, Nat.reduceBEq, zq6l, zq6k, zq8a, zq87, zq9y, t53n0, T53n0, zq8o, zq9j])
 refine call_val (R := fun v => v = .int .i64 (idxP P l)) (vs := [.slice A l.length c, .func (.func f) #[] caps.toArray]) rfl (fun W hW => index70 A c l f caps P hok W (hA.keep hW.fresh') hl fun p hp W2 hf => hP p hp W2 (hW.fresh'.tr hf)) fun v hv => ⟨.val (.int .i64 (idxP P l)), by rw [hv]; simp [Is], ?_⟩
 dsimp only [zq8t]
 (refine Y_go 600 ?_; dsimp only [Y_k, zq50, zq8o, zq6n, Nat.reduceBEq, zq6k, zq8p, zq6q, zq04, zq92, zq9b, zq0i, zq9h, YK, zq8t, zq4u, zq9i, normF, zq6l, zq87, zq9x])
 exact ret_rule (vs := [.bool (decide (idxP P l ≥ 0))]) r53 rfl rfl fun W hW => hR _ _ ⟨by rw [idxP_ge]; rfl, hW.fresh'⟩
theorem names52 (A : Option Addr) (c : Nat) (l : List Pr) (a : Int) (w : World) (hA : RowAt w A (cellsPr l)) (hl : l.length ≤ 1000000) :
  CallsV Try.prog 52 [.slice A l.length c, .int .i64 a] w fun v w' => v = .bool (namB l a) ∧ Fresh w w' := by
 refine calls_go (keep := K52) (nt := 8) (svs := [.val (.slice A l.length c), .val (.int .i64 a)]) Try.func52 x52 n52 (by simp) (by simp [IsL, Is]) fun R hR => ?_
 (refine Y_go 600 ?_; dsimp only [X52, numF, Nat.reduceAdd, zq9r, zq9q, Y_k, zq5f, zq8o, zq6n, Nat.reduceBEq, zq6l, zq6k, zq7u, zq73, zq0a, zq1z, List.length_nil, List.nil_append, YK, zq8t, zq4u, zq8p, zq6p, zq9i, normF, zq8a, zq8c, zq87, zq9y, t52n0, T52n0, zq5k, evL, zq9j])
 intro g
 refine call_val (R := fun v => v = .bool (namB l a)) (vs := [.slice A l.length c, .func (.func 69) #[] #[.pointer (some ⟨g, 0, none⟩)]]) rfl (fun W hW => contains53 A c l 69 [.pointer (some ⟨g, 0, none⟩)] (fun p => p.1 == a) ok69 W (hA.keep hW.fresh') hl fun p _ W2 hf => is69 p a (some ⟨g, 0, none⟩) W2 ((hW.cellsAt (i := 0) rfl rfl).keep hf)) fun v hv => ⟨.val (.bool (namB l a)), by rw [hv]; simp [Is], ?_⟩
 dsimp only [zq8t]
 (refine Y_go 600 ?_; dsimp only [Y_k, zq4u, zq8o, zq6n, Nat.reduceBEq, zq6k, YK, zq8t, zq9i, normF, zq6l, zq87, zq8c, zq9x])
 exact ret_rule (vs := [.bool (namB l a)]) r52 rfl rfl fun W hW => hR _ _ ⟨rfl, hW.fresh'⟩
end Go.Proofs.Ytbkpiljencaoeaa
namespace Go.Proofs.Ytbkpiljencaoeaa
open Go Go.Sx Go.Hs
set_option maxRecDepth 100000
theorem ok54 : fnOk Try.prog 54 = true := by kernel_rfl
theorem in54 (p : Pr) (x : At) (h : Hd) (C : Option Addr) (w : World) (hC : RowAt w C (cellsT x h)) (hL : RowAt w h.lA (cellsPr x.loads)) (hl : x.loads.length ≤ 1000000) : CallsV Try.prog 54 [.agg (prV p).toArray, .pointer C] w fun v w' => v = .bool (namB x.loads p.1) ∧ Fresh w w' := by
 refine calls_go (keep := K54) (nt := 9) (svs := [.agg [.val (.int .i64 p.1), .val (.int .u64 p.2)], .adr C 0]) Try.func54 x54 n54 (by simp) (by obtain ⟨c, rfl, _⟩ := hC 0 _ rfl; simp [IsL, Is, prV, Addr.add]) fun R hR => ?_
 (refine Y_go 600 ?_; dsimp only [X54, numF, Nat.reduceAdd, zq9r, zq9q, Y_k, zq5f, zq8o, zq6n, Nat.reduceBEq, zq6k, zq7t, List.length_cons, List.length_nil, zq8l, zq73, zq8m, zq8k, zq0a, zq1z, List.nil_append, YK, zq8t, zq4u, zq8p, zq6p, zq9i, normF, zq6l, zq8a, zq8c, zq8d, zq88, zq9y, t54n0, T54n0, zq5a, zq16, zq5c, zq1p, zq1g, zq1b, zq18, zq14, Nat.add_zero, zq1o, nth, zq1k, dropL, takeL, zq19, zq9j])
 intro g1
 refine ⟨hC.isSome (j := 0) (by simp [cellsT]), _, _, _, hC.cell (j := 7) rfl, ?_⟩
 refine call_val (R := fun v => v = .bool (namB x.loads p.1)) (vs := [.slice h.lA x.loads.length h.lc, .int .i64 p.1]) rfl (fun W hW => names52 h.lA h.lc x.loads p.1 W (hL.keep hW.fresh') hl) fun v hv => ⟨.val (.bool (namB x.loads p.1)), by rw [hv]; simp [Is], ?_⟩
 dsimp only [zq8t]
 (refine Y_go 600 ?_; dsimp only [Y_k, zq4u, zq8o, zq6n, Nat.reduceBEq, zq6k, YK, zq8t, zq9i, normF, zq6l, zq87, zq8c, zq8d, zq88, zq9x])
 exact ret_rule (vs := [.bool (namB x.loads p.1)]) r54 rfl rfl fun W hW => hR _ _ ⟨rfl, hW.fresh'⟩
def svL (x : At) (h : Hd) : List SV := [.val (.int .i64 x.core), .val (.int .i64 x.block), .val (.int .i64 x.tr), .val (.int .i64 x.lane), .val (.int .i64 x.frm), .val (.int .i64 x.point), .val (.int .i64 x.to), .val (.slice h.lA x.loads.length h.lc), .val (.slice h.sA x.stores.length h.sc), .val (.bool x.com), .val (.int .i64 x.code)]
theorem clash32 (x y : At) (h k : Hd) (w : World) (hx1 : RowAt w h.lA (cellsPr x.loads)) (hx2 : RowAt w h.sA (cellsPr x.stores)) (hy1 : RowAt w k.lA (cellsPr y.loads)) (hy2 : RowAt w k.sA (cellsPr y.stores))
  (l1 : x.loads.length ≤ 1000000) (l2 : x.stores.length ≤ 1000000) (l3 : y.loads.length ≤ 1000000) (l4 : y.stores.length ≤ 1000000) :
  CallsV Try.prog 32 [valT x h, valT y k] w fun v w' => v = .bool (clsB x y) ∧ Fresh w w' := by
 refine calls_go (keep := K32) (nt := 31) (svs := [svT x h, svT y k]) Try.func32 x32 n32 (by simp) (by simp [IsL, Is, svT, valT]) fun R hR => ?_
 unfold svT
 (refine Y_go 600 ?_; dsimp only [X32, numF, Nat.reduceAdd, zq9r, zq9q, Y_k, zq5f, zq8o, zq6n, Nat.reduceBEq, zq6k, zq7t, List.length_cons, List.length_nil, zq8l, zq73, zq8m, zq77, zq7g, zq8k, zq0a, zq1z, List.nil_append, YK, zq8t, zq6l, List.cons_append, zq4u, zq8p, zq6p, zq9i, normF, zq6m, zq86, zq8a, zq8c, zq88, zq9y, t32n6, T32n6, zq5a, zq14, zq5c, zq1o, nth, zq1k, dropL, takeL, zq19, zq18, zq55, zq0r, zq6q, zq87, zq9t, zq9v])
 intro g g1
 refine loop_go (α := Nat) (fun i => i ≤ x.stores.length ∧ ∀ p ∈ x.stores.take i, (namB y.loads p.1 || namB y.stores p.1) = false) (fun _ => ⟨w, w.heap.size, [], 31, []⟩)
  (fun i => { F := [(2, .ptr 0 0), (3, .ptr 1 0), (8, .val (.slice h.sA x.stores.length h.sc)), (9, .val (.int .i64 x.stores.length)), (10, .val (.int .i64 i))], H := [.cells g 75 (svL x h), .cells g1 75 (svL y k)] }) (fun i => x.stores.length - i) (fun _ => rfl) ?start ?round
 case start =>
  intro a W rep
  exact ⟨0, ⟨Nat.zero_le _, by simp⟩, rep.le (by (simp only [setn, List.nil_append, List.cons_append, leF, leH_nil, leH_cons, leF_nil, lk, scp, scpL, scpO, resF, resH, resO, resV, resVL, nth, Nat.reduceBEq, Nat.reduceLT, decide_true, decide_false, List.length, List.length_cons, List.length_nil, Nat.reduceAdd, Bool.and_self, Bool.and_true, and_true, true_and, numF] <;> try simp)) (by simp only [svL]; (simp only [setn, List.nil_append, List.cons_append, leF, leH_nil, leH_cons, leF_nil, lk, scp, scpL, scpO, resF, resH, resO, resV, resVL, nth, Nat.reduceBEq, Nat.reduceLT, decide_true, decide_false, List.length, List.length_cons, List.length_nil, Nat.reduceAdd, Bool.and_self, Bool.and_true, and_true, true_and, numF] <;> try simp))⟩
 case round =>
  rintro i ⟨hi, hn⟩ I again
  (refine Y_go 600 ?_; dsimp only [svL, zq9y, t32n4, T32n4, zq9r, zq9q, Y_k, zq50, zq8o, zq6n, Nat.reduceBEq, zq6l, zq6k, zq04, zq92, zq9b, zq0i, zq9e, YK, zq8t, zq9i, normF, zq6m, zq86, zq87, zq8c, t32n3, T32n3, zq9s, zq6h, zq8x, YC, zq9p, t32n2, T32n2, zq9t, zq58, zq06, zq0w, zq5c, zq1p, zq1c, List.nil_append, List.cons_append, zq1b, zq17, zq5e, List.length_cons, List.length_nil, Nat.reduceAdd, List.map, zq6q, zq5d, zq7t, zq8l, zq73, zq8m, zq8k, zq0a, zq1x, nth, zq1t, dropL, takeL, zq1r, splice, setn, zq8s, zq89, t32n1, T32n1, zq5a, zq14, zq1o, zq1k, zq19, zq18, Nat.add_zero, zq9j, zq9u, popTo, zq6i, YP, t32n5, T32n5, zq5k, evL])
  refine ⟨fun hlt => ?_, fun hge => ?_⟩
  ·have hlt : i < x.stores.length := by have := of_decide_eq_true hlt; omega
   have cl : ∀ t v, (prV x.stores[i])[t]? = some v → CellAt ⟨w, w.heap.size, [], 31, []⟩ h.sA ((i : Int).toNat * 2 + t) v := by
    intro t v hk
    have := (List.getElem?_eq_some_iff.1 hk).1
    rw [Int.toNat_natCast]
    exact hx2.cell (by rw [cellsPr_get _ hlt this]; exact hk)
   have htk : x.stores.take (i + 1) = x.stores.take i ++ [x.stores[i]] := by rw [List.take_add_one, List.getElem?_eq_getElem hlt]; rfl
   have hm := List.getElem_mem hlt
   have sA : h.sA.isSome = true := hx2.isSome (j := i * 2) (by rw [cellsPr_len]; omega)
   generalize x.stores[i] = p at cl htk hm
   have yes : (namB y.loads p.1 || namB y.stores p.1) = true → clsB x y = true := fun hb => by
    unfold clsB
    rw [List.any_eq_true.2 ⟨p, hm, hb⟩]; rfl
   refine ⟨⟨by omega, by omega, sA⟩, _, cl 0 _ rfl, _, cl 1 _ rfl, fun g2 => ?_⟩
   refine call_val (R := fun v => v = .bool (namB y.loads p.1)) (vs := [.slice k.lA y.loads.length k.lc, .int .i64 p.1]) rfl (fun W hW => names52 k.lA k.lc y.loads p.1 W (hy1.keep hW.fresh') l3) fun v hv => ?_
   cases hb : namB y.loads p.1 with
   | true =>
    rw [hb] at hv
    refine ⟨.bt, by rw [hv]; simp [Is], ?_⟩
    dsimp only [zq8t]
    (refine Y_go 600 ?_; dsimp only [Y_k, zq4u, zq8o, zq6n, Nat.reduceBEq, zq6k, YK, zq8t, Y_gk, zq6a, YS, zq6l, zq9l, zq4v, zq8p, zq6o, zq0b, zq9i, normF, zq6m, zq89, zq87, zq8c, zq86, zq9s, zq6f, YC, zq9y, t32n0, T32n0, zq9r, zq9q, zq9x])
    exact ret_rule (vs := [.bool true]) r32 rfl rfl fun W hW => hR _ _ ⟨by rw [yes (by rw [hb]; rfl)]; rfl, hW.fresh'⟩
   | false =>
    rw [hb] at hv
    refine ⟨.bf, by rw [hv]; simp [Is], ?_⟩
    dsimp only [zq8t]
    (refine Y_go 600 ?_; dsimp only [Y_k, zq4u, zq8o, zq6n, Nat.reduceBEq, zq6k, YK, zq8t, Y_gk, zq6c, YR, zq5a, zq6l, zq14, Nat.reduceAdd, zq5c, zq1o, nth, zq1k, List.length_cons, List.length_nil, dropL, takeL, zq19, zq18, Nat.add_zero, zq9l, YG])
    refine call_val (R := fun v => v = .bool (namB y.stores p.1)) (vs := [.slice k.sA y.stores.length k.sc, .int .i64 p.1]) rfl (fun W hW => names52 k.sA k.sc y.stores p.1 W (hy2.keep hW.fresh') l4) fun v hv => ⟨.val (.bool (namB y.stores p.1)), by rw [hv]; simp [Is], ?_⟩
    dsimp only [zq8t]
    (refine Y_go 600 ?_; dsimp only [Y_k, zq4v, zq8p, zq6o, zq8o, zq6n, Nat.reduceBEq, zq6k, zq6l, zq0c, YK, zq8t, zq9i, normF, zq6m, zq87, zq89, zq8c, zq86, zq9s, zq6h, zq8x, YC, zq9y, t32n0, T32n0, zq9r, zq9q, zq4u, zq9x, zq9p, zqa1, zq4w, zq6q, zq04, zq92, zq9b, zq0e, zq8a, zqa2])
    refine ⟨fun hb2 => ?_, fun hb2 => ⟨((i + 1 : Nat) : Int), ArOk.to (by omega) (by omega) (by omega), lend_rule fun a W rep => again (i + 1) ⟨hlt, fun q hq => ?_⟩ (by omega) a W (rep.le (by (simp only [setn, List.nil_append, List.cons_append, leF, leH_nil, leH_cons, leF_nil, lk, scp, scpL, scpO, resF, resH, resO, resV, resVL, nth, Nat.reduceBEq, Nat.reduceLT, decide_true, decide_false, List.length, List.length_cons, List.length_nil, Nat.reduceAdd, Bool.and_self, Bool.and_true, and_true, true_and, numF] <;> try simp)) (by simp only [svL]; (simp only [setn, List.nil_append, List.cons_append, leF, leH_nil, leH_cons, leF_nil, lk, scp, scpL, scpO, resF, resH, resO, resV, resVL, nth, Nat.reduceBEq, Nat.reduceLT, decide_true, decide_false, List.length, List.length_cons, List.length_nil, Nat.reduceAdd, Bool.and_self, Bool.and_true, and_true, true_and, numF] <;> try simp)))⟩⟩
    ·exact ret_rule (vs := [.bool true]) r32 rfl rfl fun W hW => hR _ _ ⟨by rw [yes (by rw [hb, hb2]; rfl)]; rfl, hW.fresh'⟩
    ·rw [htk] at hq
     rcases List.mem_append.1 hq with h9 | h9
     ·exact hn q h9
     ·simp only [List.mem_singleton] at h9; subst h9
      rw [hb, hb2]; rfl
  ·have hie : i = x.stores.length := by have := of_decide_eq_false hge; omega
   subst hie
   rw [List.take_of_length_le (Nat.le_refl _)] at hn
   have hno : (x.stores.any fun p => namB y.loads p.1 || namB y.stores p.1) = false := by
    rw [List.any_eq_false]; intro p hp; rw [hn p hp]; simp
   refine call_val (R := fun v => v = .bool (y.stores.any fun p => namB x.loads p.1)) (vs := [.slice k.sA y.stores.length k.sc, .func (.func 54) #[] #[.pointer (some ⟨g, 0, none⟩)]]) rfl (fun W hW => contains53 k.sA k.sc y.stores 54 [.pointer (some ⟨g, 0, none⟩)] (fun p => namB x.loads p.1) ok54 W (hy2.keep hW.fresh') l4 fun p _ W2 hf => in54 p x h (some ⟨g, 0, none⟩) W2 ((hW.cellsAt (i := 0) rfl rfl).keep hf) (hx1.keep (hW.fresh'.tr hf)) l1) fun v hv => ⟨.val (.bool (y.stores.any fun p => namB x.loads p.1)), by rw [hv]; simp [Is], ?_⟩
   dsimp only [zq8t]
   (refine Y_go 600 ?_; dsimp only [Y_k, zq4u, zq8o, zq6n, Nat.reduceBEq, zq6k, YK, zq8t, zq9i, normF, zq6l, zq6m, zq86, zq8a, zq87, zq8c, zq9x])
   exact ret_rule (vs := [.bool (y.stores.any fun p => namB x.loads p.1)]) r32 rfl rfl fun W hW => hR _ _ ⟨by unfold clsB; rw [hno]; rfl, hW.fresh'⟩
end Go.Proofs.Ytbkpiljencaoeaa
namespace Go.Proofs.Ytbkpiljencaoeaa
open Go Go.Sx Go.Hs
set_option maxRecDepth 100000
end Go.Proofs.Ytbkpiljencaoeaa
