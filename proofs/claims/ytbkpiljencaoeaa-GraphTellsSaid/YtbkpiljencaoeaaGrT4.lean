/- graph.names: do pairs name a word? slices.IndexFunc and slices.ContainsFunc at pairs, of any function. -/
import Derived.Test.YtbkpiljencaoeaaGrT3
import Derived.Test.YtbkpiljencaoeaaGrCodeT
import Derived.Test.YtbkpiljencaoeaaGHsCode
set_option linter.unusedSimpArgs false
set_option linter.unusedVariables false
set_option linter.unnecessarySimpa false
namespace Go.Proofs.Ytbkpiljencaoeaa
open Go Go.Sx Go.Hs
set_option maxRecDepth 100000
theorem ok69 : fnOk Try.prog 69 = true := by kernel_rfl
theorem is69 (p : Pr) (a : Int) (C : Option Addr) (w : World) (hC : RowAt w C [.int .i64 a]) : CallsV Try.prog 69 [.agg (prV p).toArray, .pointer C] w fun v w' => v = .bool (p.1 == a) ∧ Fresh w w' := by
 refine calls_go (keep := K69) (nt := 8) (svs := [.agg [.val (.int .i64 p.1), .val (.int .u64 p.2)], .adr C 0]) Try.func69 x69 n69 (by simp) (by obtain ⟨c, rfl, _⟩ := hC 0 _ rfl; simp [IsL, Is, prV, Addr.add]) fun R hR => ?_
 (refine Y_go 600 ?_; dsimp only [X69, numF, Nat.reduceAdd, zq9r, zq9q, Y_k, zq5f, zq8o, zq6n, Nat.reduceBEq, zq6k, zq7t, List.length_cons, List.length_nil, zq8l, zq73, zq8m, zq8k, zq0a, zq1z, List.nil_append, YK, zq8t, zq4u, zq8p, zq6p, zq9i, normF, zq6l, zq8a, zq8c, zq8d, zq88, zq9y, t69n0, T69n0, zq5a, zq14, Nat.add_zero, zq5c, zq1o, nth, zq1k, dropL, takeL, zq19, zq18, zq1p, zq1c, zq1b, zq50, zq04, zq92, zq9b, zq0i, zq9c, zq87, zq9x])
 intro g1
 refine ⟨_, hC.cell (j := 0) rfl, ?_⟩
 exact ret_rule (vs := [.bool _]) r69 rfl rfl fun W hW => hR _ _ ⟨rfl, hW.fresh'⟩
def idxP (P : Pr → Bool) (l : List Pr) : Int := if l.any P then ((l.findIdx P : Nat) : Int) else -1
theorem idxP_at {P : Pr → Bool} {l : List Pr} {i : Nat} (hi : i < l.length) (h : ∀ p ∈ l.take i, P p = false) (hp : P l[i] = true) : idxP P l = i := by
 unfold idxP
 rw [if_pos (List.any_eq_true.2 ⟨_, List.getElem_mem hi, hp⟩)]
 congr 1
 rw [List.findIdx_eq hi]
 refine ⟨hp, fun j hj => ?_⟩
 have hjl : j < l.length := by omega
 exact h l[j] (List.mem_of_getElem? (i := j) (by rw [List.getElem?_take, if_pos hj, List.getElem?_eq_getElem hjl]))
theorem idxP_none {P : Pr → Bool} {l : List Pr} (h : ∀ p ∈ l, P p = false) : idxP P l = -1 := by
 unfold idxP
 rw [if_neg]
 intro q
 obtain ⟨p, hp, h1⟩ := List.any_eq_true.1 q
 rw [h p hp] at h1; cases h1
theorem idxP_ge (P : Pr → Bool) (l : List Pr) : decide (idxP P l ≥ 0) = l.any P := by
 unfold idxP
 cases h : l.any P
 ·rfl
 ·simp
theorem index70 (A : Option Addr) (c : Nat) (l : List Pr) (f : FuncId) (caps : List Value) (P : Pr → Bool) (hok : fnOk Try.prog f = true) (w : World) (hA : RowAt w A (cellsPr l)) (hl : l.length ≤ 1000000)
  (hP : ∀ p ∈ l, ∀ W, Fresh w W → CallsV Try.prog f (.agg (prV p).toArray :: caps) W fun v W' => v = .bool (P p) ∧ Fresh W W') :
  CallsV Try.prog 70 [.slice A l.length c, .func (.func f) #[] caps.toArray] w fun v w' => v = .int .i64 (idxP P l) ∧ Fresh w w' := by
 refine calls_go (keep := K70) (nt := 19) (svs := [.val (.slice A l.length c), .val (.func (.func f) #[] caps.toArray)]) Try.func70 x70 n70 (by simp) (by simp [IsL, Is]) fun R hR => ?_
 (refine Y_go 600 ?_; dsimp only [X70, numF, Nat.reduceAdd, zq9r, zq9q, Y_k, zq4u, zq8p, zq6q, YK, zq8t, zq9i, normF, zq6n, Nat.reduceBEq, zq6l, zq6k, zq6m, zq86, zq87, zq9y, t70n6, T70n6, zq8o, zq55, zq0r, zq9t, zq9v])
 refine loop_go (α := Nat) (fun i => i ≤ l.length ∧ ∀ p ∈ l.take i, P p = false) (fun _ => ⟨w, w.heap.size, [], 19, []⟩)
  (fun i => { F := [(0, .val (.slice A l.length c)), (1, .val (.func (.func f) #[] caps.toArray)), (7, .val (.int .i64 l.length)), (8, .val (.int .i64 i))], H := [] }) (fun i => l.length - i) (fun _ => rfl) ?start ?round
 case start =>
  intro a' W rep
  refine ⟨0, ⟨Nat.zero_le _, by simp⟩, rep.le ?_ ?_⟩ <;> (simp only [setn, List.nil_append, List.cons_append, leF, leH_nil, leH_cons, leF_nil, lk, scp, scpL, scpO, resF, resH, resO, resV, resVL, nth, Nat.reduceBEq, Nat.reduceLT, decide_true, decide_false, List.length, List.length_cons, List.length_nil, Nat.reduceAdd, Bool.and_self, Bool.and_true, and_true, true_and, numF] <;> try simp)
 case round =>
  rintro i ⟨hi, hn⟩ I again
  (refine Y_go 600 ?_; dsimp only [zq9y, t70n4, T70n4, zq9r, zq9q, Y_k, zq50, zq8o, zq6n, Nat.reduceBEq, zq6l, zq6k, zq04, zq92, zq9b, zq0i, zq9e, YK, zq8t, zq9i, normF, zq6m, zq86, zq87, t70n3, T70n3, zq9s, zq6h, zq8x, YC, zq9p, t70n2, T70n2, zq9t, zq4u, zq89, t70n1, T70n1, zq58, zq06, zq0w, zq5c, zq1p, zq1c, List.nil_append, List.cons_append, zq1b, zq17, zq9k, zq9u, popTo, zq6i, YP, t70n5, T70n5, zq8p, zq6q, zq8a, zq9x])
  refine ⟨fun h => ?_, fun h => ?_⟩
  ·have hlt : i < l.length := by have := of_decide_eq_true h; omega
   have cl : ∀ k v, (prV l[i])[k]? = some v → CellAt ⟨w, w.heap.size, [], 19, []⟩ A ((i : Int).toNat * 2 + k) v := by
    intro k v hk
    have := (List.getElem?_eq_some_iff.1 hk).1
    rw [Int.toNat_natCast]
    exact hA.cell (by rw [cellsPr_get l hlt this]; exact hk)
   have htk : l.take (i + 1) = l.take i ++ [l[i]] := by rw [List.take_add_one, List.getElem?_eq_getElem hlt]; rfl
   have hat := fun hp => idxP_at (P := P) hlt hn hp
   have hm := List.getElem_mem hlt
   have sA : A.isSome = true := hA.isSome (j := i * 2) (by rw [cellsPr_len]; omega)
   generalize l[i] = p at cl htk hat hm
   refine ⟨⟨by omega, by omega, sA⟩, _, cl 0 _ rfl, _, cl 1 _ rfl, ?_⟩
   refine callv_val (R := fun v => v = .bool (P p)) (f := f) (fst := []) (caps := caps) (vs := [.agg (prV p).toArray]) rfl hok rfl (fun W hW => hP p hm W hW.fresh') fun v hv => ⟨.val (.bool (P p)), by rw [hv]; simp [Is], ?_⟩
   dsimp only [zq8t]
   (refine Y_go 600 ?_; dsimp only [zq9i, normF, zq6n, Nat.reduceBEq, zq6l, zq6k, zq6m, zq87, zq89, zq86, zq9s, zq8o, zq6h, zq8x, YC, zq9y, t70n0, T70n0, zq9r, zq9q, Y_k, zq4u, YK, zq8t, zq9x, zq9p, zqa1, zq4w, zq8p, zq6q, zq04, zq92, zq9b, zq0e, zq8a, zqa2])
   refine ⟨fun hb => ?_, fun hb => ⟨((i + 1 : Nat) : Int), ArOk.to (by omega) (by omega) (by omega), lend_rule fun a' W rep => again (i + 1) ⟨hlt, fun q hq => ?_⟩ (by omega) a' W (rep.le (by (simp only [setn, List.nil_append, List.cons_append, leF, leH_nil, leH_cons, leF_nil, lk, scp, scpL, scpO, resF, resH, resO, resV, resVL, nth, Nat.reduceBEq, Nat.reduceLT, decide_true, decide_false, List.length, List.length_cons, List.length_nil, Nat.reduceAdd, Bool.and_self, Bool.and_true, and_true, true_and, numF] <;> try simp)) (by (simp only [setn, List.nil_append, List.cons_append, leF, leH_nil, leH_cons, leF_nil, lk, scp, scpL, scpO, resF, resH, resO, resV, resVL, nth, Nat.reduceBEq, Nat.reduceLT, decide_true, decide_false, List.length, List.length_cons, List.length_nil, Nat.reduceAdd, Bool.and_self, Bool.and_true, and_true, true_and, numF] <;> try simp)))⟩⟩
   ·refine ret_rule (vs := [.int .i64 i]) r70 rfl rfl fun W hW => hR _ _ ⟨?_, hW.fresh'⟩
    rw [hat hb]; rfl
   ·rw [htk] at hq
    rcases List.mem_append.1 hq with h | h
    ·exact hn q h
    ·simp only [List.mem_singleton] at h; subst h; exact hb
  ·have hil : i = l.length := by have := of_decide_eq_false h; omega
   subst hil
   rw [List.take_of_length_le (Nat.le_refl _)] at hn
   refine ret_rule (vs := [.int .i64 (-1)]) r70 rfl rfl fun W hW => hR _ _ ⟨?_, hW.fresh'⟩
   rw [idxP_none hn]; rfl
theorem contains53 (A : Option Addr) (c : Nat) (l : List Pr) (f : FuncId) (caps : List Value) (P : Pr → Bool) (hok : fnOk Try.prog f = true) (w : World) (hA : RowAt w A (cellsPr l)) (hl : l.length ≤ 1000000)
  (hP : ∀ p ∈ l, ∀ W, Fresh w W → CallsV Try.prog f (.agg (prV p).toArray :: caps) W fun v W' => v = .bool (P p) ∧ Fresh W W') :
  CallsV Try.prog 53 [.slice A l.length c, .func (.func f) #[] caps.toArray] w fun v w' => v = .bool (l.any P) ∧ Fresh w w' := by
 refine calls_go (keep := K53) (nt := 9) (svs := [.val (.slice A l.length c), .val (.func (.func f) #[] caps.toArray)]) Try.func53 x53 n53 (by simp) (by simp [IsL, Is]) fun R hR => ?_
 (refine Y_go 600 ?_; dsimp only [X53, numF, Nat.reduceAdd, zq9r, zq9q, Y_k, zq4u, zq8p, zq6p, YK, zq8t, zq9i, normF, zq6n, Nat.reduceBEq, zq6l, zq6k, zq8a, zq87, zq9y, t53n0, T53n0, zq8o, zq9j])
 refine call_val (R := fun v => v = .int .i64 (idxP P l)) (vs := [.slice A l.length c, .func (.func f) #[] caps.toArray]) rfl (fun W hW => index70 A c l f caps P hok W (hA.keep hW.fresh') hl fun p hp W2 hf => hP p hp W2 (hW.fresh'.tr hf)) fun v hv => ⟨.val (.int .i64 (idxP P l)), by rw [hv]; simp [Is], ?_⟩
 dsimp only [zq8t]
 (refine Y_go 600 ?_; dsimp only [Y_k, zq50, zq8o, zq6n, Nat.reduceBEq, zq6k, zq8p, zq6q, zq04, zq92, zq9b, zq0i, zq9h, YK, zq8t, zq4u, zq9i, normF, zq6l, zq87, zq9x])
 exact ret_rule (vs := [.bool (decide (idxP P l ≥ 0))]) r53 rfl rfl fun W hW => hR _ _ ⟨by rw [idxP_ge]; rfl, hW.fresh'⟩
theorem names52 (A : Option Addr) (c : Nat) (l : List Pr) (a : Int) (w : World) (hA : RowAt w A (cellsPr l)) (hl : l.length ≤ 1000000) :
  CallsV Try.prog 52 [.slice A l.length c, .int .i64 a] w fun v w' => v = .bool (namB l a) ∧ Fresh w w' := by
 refine calls_go (keep := K52) (nt := 8) (svs := [.val (.slice A l.length c), .val (.int .i64 a)]) Try.func52 x52 n52 (by simp) (by simp [IsL, Is]) fun R hR => ?_
 (refine Y_go 600 ?_; dsimp only [X52, numF, Nat.reduceAdd, zq9r, zq9q, Y_k, zq5f, zq8o, zq6n, Nat.reduceBEq, zq6l, zq6k, zq7u, zq73, zq0a, zq1z, List.length_nil, List.nil_append, YK, zq8t, zq4u, zq8p, zq6p, zq9i, normF, zq8a, zq8c, zq87, zq9y, t52n0, T52n0, zq5k, evL, zq9j])
 intro g
 refine call_val (R := fun v => v = .bool (namB l a)) (vs := [.slice A l.length c, .func (.func 69) #[] #[.pointer (some ⟨g, 0, none⟩)]]) rfl (fun W hW => contains53 A c l 69 [.pointer (some ⟨g, 0, none⟩)] (fun p => p.1 == a) ok69 W (hA.keep hW.fresh') hl fun p _ W2 hf => is69 p a (some ⟨g, 0, none⟩) W2 ((hW.cellsAt (i := 0) rfl rfl).keep hf)) fun v hv => ⟨.val (.bool (namB l a)), by rw [hv]; simp [Is], ?_⟩
 dsimp only [zq8t]
 (refine Y_go 600 ?_; dsimp only [Y_k, zq4u, zq8o, zq6n, Nat.reduceBEq, zq6k, YK, zq8t, zq9i, normF, zq6l, zq87, zq8c, zq9x])
 exact ret_rule (vs := [.bool (namB l a)]) r52 rfl rfl fun W hW => hR _ _ ⟨rfl, hW.fresh'⟩
end Go.Proofs.Ytbkpiljencaoeaa
