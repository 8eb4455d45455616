/- hist.begun, explains, goes: memory as a map. -/
import Derived.Test.YtbkpiljencaoeaaHsRef
import Derived.Test.YtbkpiljencaoeaaGrT11
import Derived.Test.YtbkpiljencaoeaaGHsW6
import Derived.Test.YtbkpiljencaoeaaGHsCodeJ
import Derived.Test.YtbkpiljencaoeaaGHsCode
import Derived.Test.YtbkpiljencaoeaaGrCodeT
set_option linter.unusedSimpArgs false
set_option linter.unusedVariables false
set_option linter.unnecessarySimpa false
namespace Go.Proofs.Ytbkpiljencaoeaa
open Go Go.Sx Go.Hs
set_option maxRecDepth 100000
theorem begun61 (A : Option Addr) (c : Nat) (l : List Int) (w : World) (hA : RowAt w A (l.map uV)) (hl : l.length ≤ 100000) :
  CallsV Try.prog 40 [.slice A l.length c] w fun v w' => ∃ g, v = .map (some g) ∧ HeapOk ⟨w, w.heap.size, [], 19, []⟩ [.map g (memV (begL l))] w' := by
 refine calls_go (keep := K40) (nt := 19) (svs := [.val (.slice A l.length c)]) Try.func40 x40 n40 (by simp) (by simp [IsL, Is]) fun R hR => ?_
 (refine Y_go 600 ?_; dsimp only [X40, numF, Nat.reduceAdd, zq9r, zq9q, Y_k, zq4u, zq8p, zq6v, YK, zq8t, zq9i, normF, zq6n, Nat.reduceBEq, zq6l, zq6k, zq6m, zq86, zq87, zq9y, t40n6, T40n6, zq60, List.length_nil, List.nil_append, zq8o, zq8h, t40n5, T40n5, zq55, zq0r, zq6q, zq9t, zq9v])
 intro g
 refine loop_go (α := Nat) (fun i => i ≤ l.length) (fun _ => ⟨w, w.heap.size, [], 19, []⟩)
  (fun i => { F := [(3, .mp 0), (7, .val (.slice A l.length c)), (8, .val (.int .i64 l.length)), (9, .val (.int .i64 i))], H := [.map g (memV (begTo l i))] }) (fun i => l.length - i) (fun _ => rfl) ?start ?round
 case start =>
  intro a W rep
  exact ⟨0, Nat.zero_le _, rep.le (by (simp only [setn, List.nil_append, List.cons_append, leF, leH_nil, leH_cons, leF_nil, lk, scp, scpL, scpO, resF, resH, resO, resV, resVL, nth, Nat.reduceBEq, Nat.reduceLT, decide_true, decide_false, List.length, List.length_cons, List.length_nil, Nat.reduceAdd, Bool.and_self, Bool.and_true, and_true, true_and, numF] <;> try simp)) (by (simp only [setn, List.nil_append, List.cons_append, leF, leH_nil, leH_cons, leF_nil, lk, scp, scpL, scpO, resF, resH, resO, resV, resVL, nth, Nat.reduceBEq, Nat.reduceLT, decide_true, decide_false, List.length, List.length_cons, List.length_nil, Nat.reduceAdd, Bool.and_self, Bool.and_true, and_true, true_and, numF] <;> try simp); rfl)⟩
 case round =>
  intro i hi I again
  have hi : i ≤ l.length := hi
  (refine Y_go 600 ?_; dsimp only [zq9y, t40n3, T40n3, zq9r, zq9q, Y_k, zq50, zq8o, zq6n, Nat.reduceBEq, zq6l, zq6k, zq04, zq92, zq9b, zq0i, zq9e, YK, zq8t, zq9i, normF, zq6m, zq87, zq86, zq8h, t40n2, T40n2, zq9s, zq6h, zq8x, YC, zq9p, t40n1, T40n1, zq9t, zq4u, zq58, zq06, zq0w, zq5c, zq1p, zq1c, List.nil_append, zq1b, zq18, zq89, t40n0, T40n0, zq64, den, zq4j, nth, zq00, zq4i, setn, zq8s, zqa1, zq4w, zq8p, zq6q, zq0e, zqa2, zq9u, popTo, zq6i, YP, t40n4, T40n4, zq8a, zq9x])
  refine ⟨fun hlt => ?_, fun hge => ?_⟩
  ·have hlt : i < l.length := by have := of_decide_eq_true hlt; omega
   have hsome : A.isSome = true := hA.isSome (j := i) (by simpa using hlt)
   have c0 : CellAt ⟨w, w.heap.size, [], 19, []⟩ A ((i : Int).toNat * 1) (.int .u64 (l.getD i 0)) := hA.cell (by rw [Int.toNat_natCast, Nat.mul_one]; exact uV_get hlt)
   refine ⟨⟨by omega, by omega, hsome⟩, _, c0, memV_keys _, ((i + 1 : Nat) : Int), ArOk.to (by omega) (by omega) (by omega), lend_rule fun a W rep => again (i + 1) hlt (by omega) a W (rep.le (by (simp only [setn, List.nil_append, List.cons_append, leF, leH_nil, leH_cons, leF_nil, lk, scp, scpL, scpO, resF, resH, resO, resV, resVL, nth, Nat.reduceBEq, Nat.reduceLT, decide_true, decide_false, List.length, List.length_cons, List.length_nil, Nat.reduceAdd, Bool.and_self, Bool.and_true, and_true, true_and, numF] <;> try simp)) (by (simp only [setn, List.nil_append, List.cons_append, leF, leH_nil, leH_cons, leF_nil, lk, scp, scpL, scpO, resF, resH, resO, resV, resVL, nth, Nat.reduceBEq, Nat.reduceLT, decide_true, decide_false, List.length, List.length_cons, List.length_nil, Nat.reduceAdd, Bool.and_self, Bool.and_true, and_true, true_and, numF] <;> try simp); rw [← List.getD_eq_getElem?_getD]; exact mput_mem _ _ _))⟩
  ·have hin : i = l.length := by have := of_decide_eq_false hge; omega
   subst hin
   exact ret_rule (vs := [.map (some g)]) r40 rfl rfl fun W hW => hR _ _ ⟨g, rfl, hW⟩
def boxM (g gc : Nat) (m : List Pr) : List SO := [.map g (memV m), .cells gc 89 [.mp 0]]
theorem is75 {E0 : Env} {W : World} (p : Pr) (m : List Pr) (g gc : Nat) (hW : HeapOk E0 (boxM g gc m) W) :
  CallsV Try.prog 65 [.agg (prV p).toArray, .pointer (some ⟨gc, 0, none⟩)] W fun v W' => v = .bool (!(memF m p.1 == p.2)) ∧ HeapOk E0 (boxM g gc m) W' := by
 obtain ⟨b0, N, st, nt0, mk0⟩ := E0
 refine calls_lent (keep := K65) (nt := 11) (svs := [.agg [.val (.int .i64 p.1), .val (.int .u64 p.2)], .ptr 1 0]) Try.func65 x65 n65 (by simp) hW ?_ fun R hR => ?_
 ·simp only [IsL, Is]; exact ⟨_, _, ⟨prV p, by simp [prV, IsL, Is], rfl⟩, ⟨_, _, ⟨_, rfl, rfl⟩, rfl, rfl⟩, rfl⟩
 simp only [boxM]
 (refine Y_go 600 ?_; dsimp only [X65, numF, Nat.reduceAdd, zq9r, zq9q, Y_k, zq5f, zq8o, zq6n, Nat.reduceBEq, zq6k, zq7t, List.length_cons, List.length_nil, zq8l, zq73, zq8m, zq8k, zq0a, zq1z, List.cons_append, List.nil_append, YK, zq8t, zq4u, zq8p, zq6p, zq9i, normF, zq6l, zq8a, zq8c, zq88, zq9y, t65n0, T65n0, zq5c, zq1o, nth, zq1k, dropL, takeL, zq19, zq18, zq5a, zq14, Nat.add_zero, zq61, zq4h, zq00, zq92, zq4g, zq4f, zq50])
 refine fun g1 => ⟨memV_keys _, _, rfl, .val (.int .u64 (memF m p.1)), by rw [mgetD_mem]; rfl, ?_⟩
 dsimp only [zq04, zq96, zq9b, zq0i, zq9d, YK, zq8t, Y_k, zq4u, zq8o, zq6n, Nat.reduceBEq, zq6k, zq9i, normF, zq6l, zq87, zq8c, zq88, zq9x]
 refine ret_rule (vs := [.bool (memF m p.1 != p.2)]) r65 rfl rfl fun W hW => hR _ _ ⟨rfl, ?_⟩
 exact HeapOk.env (E := ⟨b0, N, st, 11, []⟩) (E' := ⟨b0, N, st, nt0, mk0⟩) rfl rfl rfl (HeapOk.pre (H' := boxM g gc m) hW (by simp [boxM, scpO]; rfl))
end Go.Proofs.Ytbkpiljencaoeaa
namespace Go.Proofs.Ytbkpiljencaoeaa
open Go Go.Sx Go.Hs
set_option maxRecDepth 100000
theorem ok75 : fnOk Try.prog 65 = true := by kernel_rfl
def badP (m : List Pr) (p : Pr) : Bool := memF m p.1 != p.2
def fstB (m : List Pr) (l : List Pr) : Int := match l.findIdx? (badP m) with | some i => i | none => -1
theorem fstB_nn (m l : List Pr) : decide (fstB m l ≥ 0) = l.any (badP m) := by
 unfold fstB
 cases h : l.findIdx? (badP m) with
 | none =>
  have := List.findIdx?_eq_none_iff.1 h
  symm
  simpa using this
 | some i =>
  have h1 := List.findIdx?_eq_some_iff_getElem.1 h
  obtain ⟨h2, h3, _⟩ := h1
  have h4 : l.any (badP m) = true := List.any_eq_true.2 ⟨_, List.getElem_mem h2, h3⟩
  rw [h4]; simp
theorem find79b {E0 : Env} {W : World} (A : Option Addr) (c : Nat) (l : List Pr) (m : List Pr) (g gc : Nat) (hW : HeapOk E0 (boxM g gc m) W) (hA : RowE E0 A (cellsPr l)) (hl : l.length ≤ 1000000) :
  CallsV Try.prog 70 [.slice A l.length c, .func (.func 65) #[] #[.pointer (some ⟨gc, 0, none⟩)]] W fun v W' => v = .int .i64 (fstB m l) ∧ HeapOk E0 (boxM g gc m) W' := by
 obtain ⟨b0, N, st, nt0, mk0⟩ := E0
 refine calls_lent (keep := K70) (nt := 19) (svs := [.val (.slice A l.length c), .val (.func (.func 65) #[] #[.pointer (some ⟨gc, 0, none⟩)])]) Try.func70 x70 n70 (by simp) hW (by simp [IsL, Is]) fun R hR => ?_
 have hAE : RowE ⟨b0, N, st, 19, []⟩ A (cellsPr l) := hA.env rfl rfl rfl
 have back : ∀ {v : Int} {W : World}, v = fstB m l → HeapOk ⟨b0, N, st, 19, []⟩ (boxM g gc m) W → R (.int .i64 v) W := fun hv hW => hR _ _ ⟨by rw [hv], HeapOk.env (E := ⟨b0, N, st, 19, []⟩) (E' := ⟨b0, N, st, nt0, mk0⟩) rfl rfl rfl hW⟩
 simp only [boxM]
 (refine Y_go 600 ?_; dsimp only [X70, numF, Nat.reduceAdd, zq9r, zq9q, Y_k, zq4u, zq8p, zq6q, YK, zq8t, zq9i, normF, zq6n, Nat.reduceBEq, zq6l, zq6k, zq6m, zq86, zq87, zq9y, t70n6, T70n6, zq8o, zq55, zq0r, zq9t, zq9v])
 refine loop_go (α := Nat) (fun i => i ≤ l.length ∧ ∀ j (h : j < l.length), j < i → badP m l[j] = false) (fun _ => ⟨b0, N, st, 19, []⟩)
  (fun i => { F := [(0, .val (.slice A l.length c)), (1, .val (.func (.func 65) #[] #[.pointer (some ⟨gc, 0, none⟩)])), (7, .val (.int .i64 l.length)), (8, .val (.int .i64 i))], H := [.map g (memV m), .cells gc 89 [.mp 0]] }) (fun i => l.length - i) (fun _ => rfl) ?start ?round
 case start =>
  intro a' W rep
  refine ⟨0, ⟨Nat.zero_le _, fun j _ hj => by omega⟩, rep.le ?_ ?_⟩ <;> (simp only [setn, List.nil_append, List.cons_append, leF, leH_nil, leH_cons, leF_nil, lk, scp, scpL, scpO, resF, resH, resO, resV, resVL, nth, Nat.reduceBEq, Nat.reduceLT, decide_true, decide_false, List.length, List.length_cons, List.length_nil, Nat.reduceAdd, Bool.and_self, Bool.and_true, and_true, true_and, numF] <;> try simp)
 case round =>
  rintro i ⟨hi, hn⟩ I hI
  have hi : i ≤ l.length := hi
  (refine Y_go 600 ?_; dsimp only [zq9y, t70n4, T70n4, zq9r, zq9q, Y_k, zq50, zq8o, zq6n, Nat.reduceBEq, zq6l, zq6k, zq04, zq92, zq9b, zq0i, zq9e, YK, zq8t, zq9i, normF, zq6m, zq86, zq87, t70n3, T70n3, zq9s, zq6h, zq8x, YC, zq9p, t70n2, T70n2, zq9t, zq4u, zq89, t70n1, T70n1, zq58, zq06, zq0w, zq5c, zq1p, zq1c, List.nil_append, List.cons_append, zq1b, zq17, zq9k, zq9u, popTo, zq6i, YP, t70n5, T70n5, zq8p, zq6q, zq8a, zq9x])
  refine ⟨fun h => ?_, fun h => ?_⟩
  ·have hlt : i < l.length := by have := of_decide_eq_true h; omega
   have cl : ∀ k v, (prV l[i])[k]? = some v → CellAt ⟨b0, N, st, 19, []⟩ A (i * 2 + k) v := by
    intro k v hk
    have := (List.getElem?_eq_some_iff.1 hk).1
    exact hAE.cell (by rw [cellsPr_get l hlt this]; exact hk)
   refine ⟨⟨by omega, by omega, hAE.isSome (j := i * 2) (by rw [cellsPr_len]; omega)⟩, _, cl 0 _ rfl, _, cl 1 _ rfl, ?_⟩
   refine callv_rule (R := fun _ v W' => v = .bool (badP m l[i]) ∧ HeapOk ⟨b0, N, st, 19, []⟩ (boxM g gc m) W') (f := 65) (fst := []) (caps := [.pointer (some ⟨gc, 0, none⟩)]) (vs := [.agg (prV l[i]).toArray]) rfl ok75 rfl (fun W hW => is75 l[i] m g gc hW) fun W v W' hW hv => ⟨.val (.bool (badP m l[i])), [.map g (memV m), .cells gc 89 [.mp 0]], by rw [hv.1]; simp [Is], HExt.refl _, hv.2, ?_⟩
   (refine Y_go 600 ?_; dsimp only [zq8t, zq9i, normF, zq6n, Nat.reduceBEq, zq6l, zq6k, zq6m, zq87, zq89, zq86, zq9s, zq8o, zq6h, zq8x, YC, zq9y, t70n0, T70n0, zq9r, zq9q, Y_k, zq4u, YK, zq9x, zq9p, zqa1, zq4w, zq8p, zq6q, zq04, zq92, zq9b, zq0e, zq8a, zqa2])
   refine ⟨fun hb => ?_, fun hb => ⟨_, .add64 (by omega) (by omega), lend_rule fun a' W rep => hI (i + 1) ⟨by omega, ?_⟩ (by omega) a' W (rep.le ?_ ?_)⟩⟩
   ·refine ret_rule (vs := [.int .i64 i]) r70 rfl rfl fun W hW => back ?_ hW
    have : l.findIdx? (badP m) = some i := List.findIdx?_eq_some_iff_getElem.2 ⟨hlt, hb, fun j hj => by rw [hn j (by omega) hj]; simp⟩
    unfold fstB; rw [this]
   ·intro j hj hji
    by_cases e : j = i
    ·subst e; exact hb
    ·exact hn j hj (by omega)
   ·(simp only [setn, List.nil_append, List.cons_append, leF, leH_nil, leH_cons, leF_nil, lk, scp, scpL, scpO, resF, resH, resO, resV, resVL, nth, Nat.reduceBEq, Nat.reduceLT, decide_true, decide_false, List.length, List.length_cons, List.length_nil, Nat.reduceAdd, Bool.and_self, Bool.and_true, and_true, true_and, numF] <;> try simp)
   ·(simp only [setn, List.nil_append, List.cons_append, leF, leH_nil, leH_cons, leF_nil, lk, scp, scpL, scpO, resF, resH, resO, resV, resVL, nth, Nat.reduceBEq, Nat.reduceLT, decide_true, decide_false, List.length, List.length_cons, List.length_nil, Nat.reduceAdd, Bool.and_self, Bool.and_true, and_true, true_and, numF] <;> try simp)
  ·have hil : i = l.length := by have := of_decide_eq_false h; omega
   subst hil
   refine ret_rule (vs := [.int .i64 (-1)]) r70 rfl rfl fun W hW => back ?_ hW
   have : l.findIdx? (badP m) = none := by
    rw [List.findIdx?_eq_none_iff]
    intro x hx
    obtain ⟨j, hj, rfl⟩ := List.getElem_of_mem hx
    exact hn j hj hj
   unfold fstB; rw [this]
theorem any74 {E0 : Env} {W : World} (A : Option Addr) (c : Nat) (l : List Pr) (m : List Pr) (g gc : Nat) (hW : HeapOk E0 (boxM g gc m) W) (hA : RowE E0 A (cellsPr l)) (hl : l.length ≤ 1000000) :
  CallsV Try.prog 53 [.slice A l.length c, .func (.func 65) #[] #[.pointer (some ⟨gc, 0, none⟩)]] W fun v W' => v = .bool (l.any (badP m)) ∧ HeapOk E0 (boxM g gc m) W' := by
 obtain ⟨b0, N, st, nt0, mk0⟩ := E0
 refine calls_lent (keep := K53) (nt := 9) (svs := [.val (.slice A l.length c), .val (.func (.func 65) #[] #[.pointer (some ⟨gc, 0, none⟩)])]) Try.func53 x53 n53 (by simp) hW (by simp [IsL, Is]) fun R hR => ?_
 have hAE : RowE ⟨b0, N, st, 9, []⟩ A (cellsPr l) := hA.env rfl rfl rfl
 simp only [boxM]
 (refine Y_go 600 ?_; dsimp only [X53, numF, Nat.reduceAdd, zq9r, zq9q, Y_k, zq4u, zq8p, zq6p, YK, zq8t, zq9i, normF, zq6n, Nat.reduceBEq, zq6l, zq6k, zq8a, zq87, zq9y, t53n0, T53n0, zq8o, zq9j])
 refine call_rule (vs := [.slice A l.length c, .func (.func 65) #[] #[.pointer (some ⟨gc, 0, none⟩)]]) rfl (R := fun _ v W' => v = .int .i64 (fstB m l) ∧ HeapOk ⟨b0, N, st, 9, []⟩ (boxM g gc m) W') (fun W hW => find79b A c l m g gc hW hAE hl) fun W v W' hW hv => ⟨.val (.int .i64 (fstB m l)), [.map g (memV m), .cells gc 89 [.mp 0]], by rw [hv.1]; simp [Is], HExt.refl _, hv.2, ?_⟩
 (refine Y_go 600 ?_; dsimp only [zq8t, Y_k, zq50, zq8o, zq6n, Nat.reduceBEq, zq6k, zq8p, zq6q, zq04, zq92, zq9b, zq0i, zq9h, YK, zq4u, zq9i, normF, zq6l, zq87, zq9x])
 refine ret_rule (vs := [.bool _]) r53 rfl rfl fun W hW => hR _ _ ⟨by rw [fstB_nn]; rfl, HeapOk.env (E := ⟨b0, N, st, 9, []⟩) (E' := ⟨b0, N, st, nt0, mk0⟩) rfl rfl rfl hW⟩
end Go.Proofs.Ytbkpiljencaoeaa
namespace Go.Proofs.Ytbkpiljencaoeaa
open Go Go.Sx Go.Hs
set_option maxRecDepth 100000
theorem explains63_nil {E0 : Env} {W : World} (g : Nat) (m : List Pr) (e : Ev) (hW : HeapOk E0 [.map g (memV m)] W) :
  CallsV Try.prog 42 [.map (some g), e.val, .pointer none] W fun v W' => v = .bool (explB m e none) ∧ HeapOk E0 [.map g (memV m)] W' := by
 obtain ⟨b0, N, st, nt0, mk0⟩ := E0
 refine calls_lent (keep := K42) (nt := 36) (svs := [.mp 0, .agg e.sv, .val (.pointer none)]) Try.func42 x42 n42 (by simp) hW ?_ fun R hR => ?_
 ·simp only [IsL]
  exact ⟨_, _, by simp only [Is]; exact ⟨_, rfl, rfl⟩, ⟨_, _, Ev.is _ e, ⟨_, _, by simp only [Is], rfl, rfl⟩, rfl⟩, rfl⟩
 have fin : ∀ (v : Bool) (W : World) (r : List SO), v = explB m e none → HeapOk ⟨b0, N, st, 36, []⟩ ([.map g (memV m)] ++ r) W → R (.bool v) W := fun v W r hv hW => hR _ _ ⟨by rw [hv], HeapOk.env (E := ⟨b0, N, st, 36, []⟩) (E' := ⟨b0, N, st, nt0, mk0⟩) rfl rfl rfl (hW.pre (by simp [scpO]))⟩
 simp only [Ev.sv]
 (refine Y_go 600 ?_; dsimp only [X42, numF, Nat.reduceAdd, zq9r, zq9q, Y_k, zq5f, zq8o, zq6n, Nat.reduceBEq, zq6k, zq83, zq7p, zq0a, zq1z, List.length_cons, List.length_nil, List.cons_append, List.nil_append, YK, zq8t, zq6l, zq7t, zq8l, zq73, zq8m, zq8k, zq4u, zq8p, zq6p, zq9i, normF, zq6m, zq86, zq8a, zq8c, zq87, zq88, zq8h, zq9y, t42n2, T42n2, zq5t, zq3u, zq3q, zq9s, zq6h, zq8x, YC, t42n0, T42n0, zq5a, zq14, Nat.add_zero, zq5c, zq1o, nth, zq1k, dropL, takeL, zq19, zq18, zq50, zq6q, zq04, zq92, zq9b, zq0i, zq9d, Y_gk, zq6e, YS, zq6a, zq4v, zq6o, zq0b, zq89, zq9x, YR, zq6c, zq61, zq4h, zq00, zq4g, zq4f, zq9p, t42n1, T42n1, zq5i])
 intro g1 g2
 refine ⟨fun _ => ⟨fun h1 => ?_, fun h1 => ?_⟩, fun h => absurd h (by decide)⟩
 ·refine ret_rule (vs := [.bool true]) r42 rfl rfl fun W hW => fin true W [_, _] ?_ hW
  simp only [bne_iff_ne, ne_eq] at h1
  simp [explB, h1]
 ·refine ⟨memV_keys _, _, rfl, .val (.int .u64 (memF m e.addr)), by rw [mgetD_mem]; rfl, ?_⟩
  dsimp only [zq04, zq96, zq9b, zq0i, zq9c, YK, zq8t, Y_k, zq4v, zq8p, zq6o, zq8o, zq6n, Nat.reduceBEq, zq6k, zq6l, zq0c, zq4u, zq9i, normF, zq89, zq87, zq8c, zq88, zq8h, zq9x]
  refine ret_rule (vs := [.bool (memF m e.addr == e.value)]) r42 rfl rfl fun W hW => fin _ W [_, _] ?_ hW
  have h1 : e.kind = 7 := by simpa using h1
  simp [explB, h1]
theorem explains63_some {E0 : Env} {W : World} (g : Nat) (m : List Pr) (e : Ev) (x : At) (hd : Hd) (hl : x.loads.length ≤ 1000000) (hX : RowE E0 (some ⟨hd.g, 0, none⟩) (cellsA x hd)) (hL : RowE E0 hd.lA (cellsPr x.loads)) (hW : HeapOk E0 [.map g (memV m)] W) :
  CallsV Try.prog 42 [.map (some g), e.val, ptrH hd] W fun v W' => v = .bool (explB m e (some x)) ∧ HeapOk E0 [.map g (memV m)] W' := by
 obtain ⟨b0, N, st, nt0, mk0⟩ := E0
 refine calls_lent (keep := K42) (nt := 36) (svs := [.mp 0, .agg e.sv, .adr (some ⟨hd.g, 0, none⟩) 0]) Try.func42 x42 n42 (by simp) hW ?_ fun R hR => ?_
 ·simp only [IsL]
  exact ⟨_, _, by simp only [Is]; exact ⟨_, rfl, rfl⟩, ⟨_, _, Ev.is _ e, ⟨_, _, by simp only [Is]; rfl, rfl, rfl⟩, rfl⟩, rfl⟩
 have fin : ∀ (v : Bool) (W : World) (r : List SO), v = explB m e (some x) → HeapOk ⟨b0, N, st, 36, []⟩ ([.map g (memV m)] ++ r) W → R (.bool v) W := fun v W r hv hW => hR _ _ ⟨by rw [hv], HeapOk.env (E := ⟨b0, N, st, 36, []⟩) (E' := ⟨b0, N, st, nt0, mk0⟩) rfl rfl rfl (hW.pre (by simp [scpO]))⟩
 have hXE : RowE ⟨b0, N, st, 36, []⟩ (some ⟨hd.g, 0, none⟩) (cellsA x hd) := hX.env rfl rfl rfl
 have hLE : RowE ⟨b0, N, st, 36, []⟩ hd.lA (cellsPr x.loads) := hL.env rfl rfl rfl
 have c11 : CellAt ⟨b0, N, st, 36, []⟩ (some ⟨hd.g, 0, none⟩) 11 (.bool x.odd) := hXE.cell rfl
 have c7 : CellAt ⟨b0, N, st, 36, []⟩ (some ⟨hd.g, 0, none⟩) 7 (.slice hd.lA x.loads.length hd.lc) := hXE.cell rfl
 simp only [Ev.sv]
 (refine Y_go 600 ?_; dsimp only [X42, numF, Nat.reduceAdd, zq9r, zq9q, Y_k, zq5f, zq8o, zq6n, Nat.reduceBEq, zq6k, zq83, zq7p, zq0a, zq1z, List.length_cons, List.length_nil, List.cons_append, List.nil_append, YK, zq8t, zq6l, zq7t, zq8l, zq73, zq8m, zq8k, zq4u, zq8p, zq6p, zq9i, normF, zq6m, zq86, zq8a, zq8c, zq8d, zq88, zq8h, zq9y, t42n2, T42n2, zq5t, zq3t, zq3q, zq87, zq9s, zq6h, zq8x, YC, t42n0, T42n0, zq5a, zq14, Nat.add_zero, zq5c, zq1o, nth, zq1k, dropL, takeL, zq19, zq18, zq50, zq6q, zq04, zq92, zq9b, zq0i, zq9d, Y_gk, zq6e, YS, zq6a, zq4v, zq6o, zq0b, zq89, zq9x, YR, zq6c, zq61, zq4h, zq00, zq4g, zq4f, zq9p, t42n1, T42n1, zq5i, zq2b, zq16, zq1p, zq1d, zq1b, zq53, zq0o, zq6d, zq69, zq1g, zq5k, evL, zq9l, YG, zq6b, zq0c])
 intro g1 g2
 refine ⟨fun h => by simp at h, fun _ => ⟨rfl, rfl, x.odd, c11, fun h => ⟨rfl, rfl, rfl, _, _, _, c7, ?_⟩, fun h => ?_⟩⟩
 rotate_left
 ·have h : x.odd = true := by simpa using h
  refine ret_rule (vs := [.bool false]) r42 rfl rfl fun W hW => fin false W [_, _] ?_ hW
  simp [explB, h]
 have h : x.odd = false := by simpa using h
 refine call_lent (H1 := [.map g (memV m), .cells g1 89 [.mp 0]]) (r := [_]) (fun v H1' => v = .bool (x.loads.any (badP m)) ∧ H1' = [.map g (memV m), .cells g1 89 [.mp 0]]) rfl (vs := [.slice hd.lA x.loads.length hd.lc, .func (.func 65) #[] #[.pointer (some ⟨g1, 0, none⟩)]]) rfl (fun W hW hh => ?_) fun v H1' hv => ?_
 ·refine (any74 hd.lA hd.lc x.loads m g g1 hh (hLE.over (HeapOk.rebase (hW.pre (by simp [scpO]; rfl)) 0 []).2) hl).mono fun v W' hv => ⟨_, ⟨hv.1, rfl⟩, HExt.refl _, rfl, hv.2⟩
 obtain ⟨rfl, rfl⟩ := hv
 refine ⟨.val (.bool (x.loads.any (badP m))), by simp [Is], ?_⟩
 (refine Y_go 600 ?_; dsimp only [zq8t, List.cons_append, List.nil_append, Y_gk, zq6n, Nat.reduceBEq, zq6l, zq6k, zq69, YR, zq53, zq8o, zq0o, YK, Y_k, zq4v, zq8p, zq6p, zq0b, zq4u, zq9i, normF, zq8a, zq87, zq8c, zq8d, zq88, zq8h, zq9x])
 refine ret_rule (vs := [.bool (!x.loads.any (badP m))]) r42 rfl rfl fun W hW => fin _ W [_, _] ?_ hW
 simp only [explB, h]
 rw [List.not_any_eq_all_not]
 simp [badP, bne]
theorem goes64_nil {E0 : Env} {W : World} (g : Nat) (m : List Pr) (e : Ev) (hW : HeapOk E0 [.map g (memV m)] W) :
  CallsV Try.prog 43 [.map (some g), e.val, .pointer none] W fun v W' => v = .tuple #[] ∧ HeapOk E0 [.map g (memV (goesM m e none))] W' := by
 obtain ⟨b0, N, st, nt0, mk0⟩ := E0
 refine calls_lent (keep := K43) (nt := 39) (svs := [.mp 0, .agg e.sv, .val (.pointer none)]) Try.func43 x43 n43 (by simp) hW ?_ fun R hR => ?_
 ·simp only [IsL]
  exact ⟨_, _, by simp only [Is]; exact ⟨_, rfl, rfl⟩, ⟨_, _, Ev.is _ e, ⟨_, _, by simp only [Is], rfl, rfl⟩, rfl⟩, rfl⟩
 have fin : ∀ (m' : List Pr) (W : World) (r : List SO), m' = goesM m e none → HeapOk ⟨b0, N, st, 39, []⟩ ([.map g (memV m')] ++ r) W → R (.tuple #[]) W := fun m' W r hv hW => hR _ _ ⟨rfl, by rw [← hv]; exact HeapOk.env (E := ⟨b0, N, st, 39, []⟩) (E' := ⟨b0, N, st, nt0, mk0⟩) rfl rfl rfl (hW.pre (by simp [scpO]))⟩
 simp only [Ev.sv]
 (refine Y_go 600 ?_; dsimp only [X43, numF, Nat.reduceAdd, zq9r, zq9q, Y_k, zq5f, zq8o, zq6n, Nat.reduceBEq, zq6l, zq6k, zq7t, List.length_cons, List.length_nil, zq8l, zq73, zq8m, zq8k, zq0a, zq1z, List.cons_append, List.nil_append, YK, zq8t, zq9i, normF, zq6m, zq86, zq8c, zq87, zq88, zq8h, zq9y, t43n8, T43n8, zq4u, zq5t, zq3u, zq3q, zq9s, zq6h, zq8x, YC, t43n1, T43n1, zq5a, zq14, Nat.add_zero, zq5c, zq1o, nth, zq1k, dropL, takeL, zq19, zq18, zq50, zq8p, zq6q, zq04, zq92, zq9b, zq0i, zq9c, zq89, t43n0, T43n0, zq64, den, zq4j, zq00, zq4i, setn, zq8s, zq9x, zq9p, t43n7, T43n7, zq5i])
 intro g2
 refine ⟨fun _ => ⟨fun h1 => ?_, fun h1 => ?_⟩, fun h => absurd h (by decide)⟩
 ·refine ⟨memV_keys _, ?_⟩
  rw [mput_mem]
  refine ret_rule (vs := []) r43 rfl rfl fun W hW => fin (mPut m e.addr e.value) W [_] ?_ hW
  have h1 : e.kind = 8 := by simpa using h1
  simp [goesM, h1]
 ·refine ret_rule (vs := []) r43 rfl rfl fun W hW => fin m W [_] ?_ hW
  have h1 : ¬ e.kind = 8 := by simpa using h1
  simp [goesM, h1]
theorem goes64_some {E0 : Env} {W : World} (g : Nat) (m : List Pr) (e : Ev) (x : At) (hd : Hd) (hl : x.stores.length ≤ 1000000) (hX : RowE E0 (some ⟨hd.g, 0, none⟩) (cellsA x hd)) (hL : RowE E0 hd.sA (cellsPr x.stores)) (hW : HeapOk E0 [.map g (memV m)] W) :
  CallsV Try.prog 43 [.map (some g), e.val, ptrH hd] W fun v W' => v = .tuple #[] ∧ HeapOk E0 [.map g (memV (goesM m e (some x)))] W' := by
 obtain ⟨b0, N, st, nt0, mk0⟩ := E0
 refine calls_lent (keep := K43) (nt := 39) (svs := [.mp 0, .agg e.sv, .adr (some ⟨hd.g, 0, none⟩) 0]) Try.func43 x43 n43 (by simp) hW ?_ fun R hR => ?_
 ·simp only [IsL]
  exact ⟨_, _, by simp only [Is]; exact ⟨_, rfl, rfl⟩, ⟨_, _, Ev.is _ e, ⟨_, _, by simp only [Is]; rfl, rfl, rfl⟩, rfl⟩, rfl⟩
 have fin : ∀ (m' : List Pr) (W : World) (r : List SO), m' = goesM m e (some x) → HeapOk ⟨b0, N, st, 39, []⟩ ([.map g (memV m')] ++ r) W → R (.tuple #[]) W := fun m' W r hv hW => hR _ _ ⟨rfl, by rw [← hv]; exact HeapOk.env (E := ⟨b0, N, st, 39, []⟩) (E' := ⟨b0, N, st, nt0, mk0⟩) rfl rfl rfl (hW.pre (by simp [scpO]))⟩
 have hXE : RowE ⟨b0, N, st, 39, []⟩ (some ⟨hd.g, 0, none⟩) (cellsA x hd) := hX.env rfl rfl rfl
 have hLE : RowE ⟨b0, N, st, 39, []⟩ hd.sA (cellsPr x.stores) := hL.env rfl rfl rfl
 have c9 : CellAt ⟨b0, N, st, 39, []⟩ (some ⟨hd.g, 0, none⟩) 9 (.bool x.com) := hXE.cell rfl
 have c8 : CellAt ⟨b0, N, st, 39, []⟩ (some ⟨hd.g, 0, none⟩) 8 (.slice hd.sA x.stores.length hd.sc) := hXE.cell rfl
 simp only [Ev.sv]
 (refine Y_go 600 ?_; dsimp only [X43, numF, Nat.reduceAdd, zq9r, zq9q, Y_k, zq5f, zq8o, zq6n, Nat.reduceBEq, zq6l, zq6k, zq7t, List.length_cons, List.length_nil, zq8l, zq73, zq8m, zq8k, zq0a, zq1z, List.cons_append, List.nil_append, YK, zq8t, zq9i, normF, zq6m, zq86, zq8c, zq8d, zq88, zq8h, zq9y, t43n8, T43n8, zq4u, zq5t, zq3t, zq3q, zq87, zq9s, zq6h, zq8x, YC, t43n1, T43n1, zq5a, zq14, Nat.add_zero, zq5c, zq1o, nth, zq1k, dropL, takeL, zq19, zq18, zq50, zq8p, zq6q, zq04, zq92, zq9b, zq0i, zq9c, zq89, t43n0, T43n0, zq64, den, zq4j, zq00, zq4i, setn, zq8s, zq9x, zq9p, t43n7, T43n7, zq5i, zq2b, zq16, zq1p, zq1d, zq1b, zq8a, t43n6, T43n6, zq1g, zq55, zq0r, zq9t, zq9v, zqa3])
 intro g2
 refine ⟨fun h => by simp at h, fun _ => ⟨rfl, rfl, rfl, x.com, c9, fun h => ⟨rfl, rfl, rfl, _, _, _, c8, ?_⟩, fun h => ?_⟩⟩
 rotate_left
 ·refine end_rule (vs := []) r43 rfl rfl fun W hW => fin m W [_] ?_ hW
  have h : x.com = false := h
  simp [goesM, h]
 have h : x.com = true := h
 refine loop_go (α := Nat) (fun i => i ≤ x.stores.length) (fun _ => ⟨b0, N, st, 39, []⟩)
  (fun i => { F := [(0, .mp 0), (27, .val (.slice hd.sA x.stores.length hd.sc)), (28, .val (.int .i64 x.stores.length)), (29, .val (.int .i64 i))], H := [.map g (memV (putAll m (x.stores.take i)))] }) (fun i => x.stores.length - i) (fun _ => rfl) ?start ?round
 case start =>
  intro a' W rep
  exact ⟨0, Nat.zero_le _, rep.le (by (simp only [setn, List.nil_append, List.cons_append, leF, leH_nil, leH_cons, leF_nil, lk, scp, scpL, scpO, resF, resH, resO, resV, resVL, nth, Nat.reduceBEq, Nat.reduceLT, decide_true, decide_false, List.length, List.length_cons, List.length_nil, Nat.reduceAdd, Bool.and_self, Bool.and_true, and_true, true_and, numF] <;> try simp)) (by (simp only [setn, List.nil_append, List.cons_append, leF, leH_nil, leH_cons, leF_nil, lk, scp, scpL, scpO, resF, resH, resO, resV, resVL, nth, Nat.reduceBEq, Nat.reduceLT, decide_true, decide_false, List.length, List.length_cons, List.length_nil, Nat.reduceAdd, Bool.and_self, Bool.and_true, and_true, true_and, numF] <;> try simp); rfl)⟩
 case round =>
  intro i hi I hI
  have hi : i ≤ x.stores.length := hi
  (refine Y_go 600 ?_; dsimp only [zq9y, t43n5, T43n5, zq9r, zq9q, Y_k, zq50, zq8o, zq6n, Nat.reduceBEq, zq6l, zq6k, zq04, zq92, zq9b, zq0i, zq9e, YK, zq8t, zq9i, normF, zq6m, zq87, zq86, zq8h, t43n4, T43n4, zq9s, zq6h, zq8x, YC, zq9p, t43n3, T43n3, zq9t, zq58, zq06, zq0w, zq5c, zq1p, zq1c, List.nil_append, List.cons_append, zq1b, zq17, zq5e, List.length_cons, List.length_nil, Nat.reduceAdd, List.map, zq6q, zq5d, zq7t, zq8l, zq73, zq8m, zq8k, zq0a, zq1x, nth, zq1t, dropL, takeL, zq1r, splice, setn, zq8s, zq89, zq8c, t43n2, T43n2, zq4u, zq5a, zq14, Nat.add_zero, zq1o, zq1k, zq19, zq18, zq64, den, zq4j, zq00, zq4i, zqa1, zq4w, zq8p, zq0e, zqa2, zq9u, popTo, zq6i, YP, zqa3])
  refine ⟨fun h2 => ?_, fun h2 => ?_⟩
  ·have hlt : i < x.stores.length := by have := of_decide_eq_true h2; omega
   have cl : ∀ k v, (prV x.stores[i])[k]? = some v → CellAt ⟨b0, N, st, 39, []⟩ hd.sA (i * 2 + k) v := by
    intro k v hk
    have := (List.getElem?_eq_some_iff.1 hk).1
    exact hLE.cell (by rw [cellsPr_get x.stores hlt this]; exact hk)
   refine ⟨⟨by omega, by omega, hLE.isSome (j := i * 2) (by rw [cellsPr_len]; omega)⟩, _, cl 0 _ rfl, _, cl 1 _ rfl, fun g3 => ⟨memV_keys _, _, .add64 (by omega) (by omega), lend_rule fun a' W rep => hI (i + 1) hlt (by omega) a' W (rep.le ?_ ?_)⟩⟩
   ·(simp only [setn, List.nil_append, List.cons_append, leF, leH_nil, leH_cons, leF_nil, lk, scp, scpL, scpO, resF, resH, resO, resV, resVL, nth, Nat.reduceBEq, Nat.reduceLT, decide_true, decide_false, List.length, List.length_cons, List.length_nil, Nat.reduceAdd, Bool.and_self, Bool.and_true, and_true, true_and, numF] <;> try simp)
   ·rw [mput_mem, List.take_add_one, List.getElem?_eq_getElem hlt]
    simp only [Option.toList]
    rw [putAll_snoc]
    (simp only [setn, List.nil_append, List.cons_append, leF, leH_nil, leH_cons, leF_nil, lk, scp, scpL, scpO, resF, resH, resO, resV, resVL, nth, Nat.reduceBEq, Nat.reduceLT, decide_true, decide_false, List.length, List.length_cons, List.length_nil, Nat.reduceAdd, Bool.and_self, Bool.and_true, and_true, true_and, numF] <;> try simp)
  ·have hil : i = x.stores.length := by have := of_decide_eq_false h2; omega
   subst hil
   refine end_rule (vs := []) r43 rfl rfl fun W hW => fin _ W [] ?_ hW
   simp [goesM, h]
end Go.Proofs.Ytbkpiljencaoeaa
