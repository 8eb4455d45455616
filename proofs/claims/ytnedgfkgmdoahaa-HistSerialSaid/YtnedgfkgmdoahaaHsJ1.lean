/- hist.begun, explains, goes: memory as a map. -/
import Derived.Test.YtnedgfkgmdoahaaHsPlain
import Derived.Test.YtnedgfkgmdoahaaHsX8
import Derived.Test.YtnedgfkgmdoahaaHsCodeJ
import Derived.Test.YtnedgfkgmdoahaaHsCode
set_option linter.unusedSimpArgs false
set_option linter.unusedVariables false
set_option linter.unnecessarySimpa false
namespace Go.Proofs.Ytnedgfkgmdoahaa
open Go Go.Sx Go.Hs
set_option maxRecDepth 100000
def memV (m : List Pr) : List (Value × Value) := m.map fun p => (.int .i64 p.1, .int .u64 p.2)
theorem mget_mem : ∀ (m : List Pr) (a : Int), mget (memV m) (.int .i64 a) = (mGet m a).map fun v => .int .u64 v
 | [], _ => rfl
 | (q, v) :: m, a => by
  have ih := mget_mem m a
  simp only [memV, List.map_cons, mget, keyB_int, mGet] at ih ⊢
  by_cases e : a = q
  ·subst e; simp
  ·have : (a == q) = false := by simpa using e
   simp only [this, if_neg e]; exact ih
theorem mgetD_mem (m : List Pr) (a : Int) : (mget (memV m) (.int .i64 a)).getD (.int .u64 0) = .int .u64 (memF m a) := by
 rw [mget_mem]; unfold memF; cases mGet m a <;> rfl
theorem mput_mem : ∀ (m : List Pr) (a v : Int), mput (memV m) (.int .i64 a) (.int .u64 v) = memV (mPut m a v)
 | [], _, _ => rfl
 | (q, u) :: m, a, v => by
  have ih := mput_mem m a v
  simp only [memV, List.map_cons, mput, keyB_int, mPut] at ih ⊢
  by_cases e : a = q
  ·subst e; simp
  ·have : (a == q) = false := by simpa using e
   simp only [this, if_neg e]; rw [ih]; rfl
theorem memV_keys (m : List Pr) : ∀ p ∈ memV m, keyIs (.int .i64) p.1 = true := by
 intro p hp
 obtain ⟨a, _, rfl⟩ := List.mem_map.1 hp
 rfl
def uV (n : Int) : Value := .int .u64 n
theorem uV_get {l : List Int} {i : Nat} (h : i < l.length) : (l.map uV)[i]? = some (.int .u64 (l.getD i 0)) := by
 rw [List.getElem?_map, List.getD_eq_getElem?_getD, List.getElem?_eq_getElem h]; rfl
theorem begun61 (A : Option Addr) (c : Nat) (l : List Int) (w : World) (hA : RowAt w A (l.map uV)) (hl : l.length ≤ 100000) :
  CallsV Try.prog 61 [.slice A l.length c] w fun v w' => ∃ g, v = .map (some g) ∧ HeapOk ⟨w, w.heap.size, [], 19, []⟩ [.map g (memV (begL l))] w' := by
 refine calls_go (keep := K61) (nt := 19) (svs := [.val (.slice A l.length c)]) Try.func61 x61 n61 (by simp) (by simp [IsL, Is]) fun R hR => ?_
 (refine Y_go 600 ?_; dsimp only [X61, numF, Nat.reduceAdd, zq9r, zq9q, Y_k, zq4u, zq8p, zq6v, YK, zq8t, zq9i, normF, zq6n, Nat.reduceBEq, zq6l, zq6k, zq6m, zq86, zq87, zq9y, t61n6, T61n6, zq60, List.length_nil, List.nil_append, zq8o, zq8h, t61n5, T61n5, zq55, zq0r, zq6q, zq9t, zq9v])
 intro g
 refine loop_go (α := Nat) (fun i => i ≤ l.length) (fun _ => ⟨w, w.heap.size, [], 19, []⟩)
  (fun i => { F := [(3, .mp 0), (7, .val (.slice A l.length c)), (8, .val (.int .i64 l.length)), (9, .val (.int .i64 i))], H := [.map g (memV (begTo l i))] }) (fun i => l.length - i) (fun _ => rfl) ?start ?round
 case start =>
  intro a W rep
  exact ⟨0, Nat.zero_le _, rep.le (by (simp only [setn, List.nil_append, List.cons_append, leF, leH_nil, leH_cons, leF_nil, lk, scp, scpL, scpO, resF, resH, resO, resV, resVL, nth, Nat.reduceBEq, Nat.reduceLT, decide_true, decide_false, List.length, List.length_cons, List.length_nil, Nat.reduceAdd, Bool.and_self, Bool.and_true, and_true, true_and, numF] <;> try simp)) (by (simp only [setn, List.nil_append, List.cons_append, leF, leH_nil, leH_cons, leF_nil, lk, scp, scpL, scpO, resF, resH, resO, resV, resVL, nth, Nat.reduceBEq, Nat.reduceLT, decide_true, decide_false, List.length, List.length_cons, List.length_nil, Nat.reduceAdd, Bool.and_self, Bool.and_true, and_true, true_and, numF] <;> try simp); rfl)⟩
 case round =>
  intro i hi I again
  have hi : i ≤ l.length := hi
  (refine Y_go 600 ?_; dsimp only [zq9y, t61n3, T61n3, zq9r, zq9q, Y_k, zq50, zq8o, zq6n, Nat.reduceBEq, zq6l, zq6k, zq04, zq92, zq9b, zq0i, zq9e, YK, zq8t, zq9i, normF, zq6m, zq87, zq86, zq8h, t61n2, T61n2, zq9s, zq6h, zq8x, YC, zq9p, t61n1, T61n1, zq9t, zq4u, zq58, zq06, zq0w, zq5c, zq1p, zq1c, List.nil_append, zq1b, zq18, zq89, t61n0, T61n0, zq64, den, zq4j, nth, zq00, zq4i, setn, zq8s, zqa1, zq4w, zq8p, zq6q, zq0e, zqa2, zq9u, popTo, zq6i, YP, t61n4, T61n4, zq8a, zq9x])
  refine ⟨fun hlt => ?_, fun hge => ?_⟩
  ·have hlt : i < l.length := by have := of_decide_eq_true hlt; omega
   have hsome : A.isSome = true := hA.isSome (j := i) (by simpa using hlt)
   have c0 : CellAt ⟨w, w.heap.size, [], 19, []⟩ A ((i : Int).toNat * 1) (.int .u64 (l.getD i 0)) := hA.cell (by rw [Int.toNat_natCast, Nat.mul_one]; exact uV_get hlt)
   refine ⟨⟨by omega, by omega, hsome⟩, _, c0, memV_keys _, ((i + 1 : Nat) : Int), ArOk.to (by omega) (by omega) (by omega), lend_rule fun a W rep => again (i + 1) hlt (by omega) a W (rep.le (by (simp only [setn, List.nil_append, List.cons_append, leF, leH_nil, leH_cons, leF_nil, lk, scp, scpL, scpO, resF, resH, resO, resV, resVL, nth, Nat.reduceBEq, Nat.reduceLT, decide_true, decide_false, List.length, List.length_cons, List.length_nil, Nat.reduceAdd, Bool.and_self, Bool.and_true, and_true, true_and, numF] <;> try simp)) (by (simp only [setn, List.nil_append, List.cons_append, leF, leH_nil, leH_cons, leF_nil, lk, scp, scpL, scpO, resF, resH, resO, resV, resVL, nth, Nat.reduceBEq, Nat.reduceLT, decide_true, decide_false, List.length, List.length_cons, List.length_nil, Nat.reduceAdd, Bool.and_self, Bool.and_true, and_true, true_and, numF] <;> try simp); rw [← List.getD_eq_getElem?_getD]; exact mput_mem _ _ _))⟩
  ·have hin : i = l.length := by have := of_decide_eq_false hge; omega
   subst hin
   exact ret_rule (vs := [.map (some g)]) r61 rfl rfl fun W hW => hR _ _ ⟨g, rfl, hW⟩
def boxM (g gc : Nat) (m : List Pr) : List SO := [.map g (memV m), .cells gc 132 [.mp 0]]
theorem is75 {E0 : Env} {W : World} (p : Pr) (m : List Pr) (g gc : Nat) (hW : HeapOk E0 (boxM g gc m) W) :
  CallsV Try.prog 75 [.agg (prV p).toArray, .pointer (some ⟨gc, 0, none⟩)] W fun v W' => v = .bool (!(memF m p.1 == p.2)) ∧ HeapOk E0 (boxM g gc m) W' := by
 obtain ⟨b0, N, st, nt0, mk0⟩ := E0
 refine calls_lent (keep := K75) (nt := 11) (svs := [.agg [.val (.int .i64 p.1), .val (.int .u64 p.2)], .ptr 1 0]) Try.func75 x75 n75 (by simp) hW ?_ fun R hR => ?_
 ·simp only [IsL, Is]; exact ⟨_, _, ⟨prV p, by simp [prV, IsL, Is], rfl⟩, ⟨_, _, ⟨_, rfl, rfl⟩, rfl, rfl⟩, rfl⟩
 simp only [boxM]
 (refine Y_go 600 ?_; dsimp only [X75, numF, Nat.reduceAdd, zq9r, zq9q, Y_k, zq5f, zq8o, zq6n, Nat.reduceBEq, zq6k, zq7t, List.length_cons, List.length_nil, zq8l, zq73, zq8m, zq8k, zq0a, zq1z, List.cons_append, List.nil_append, YK, zq8t, zq4u, zq8p, zq6p, zq9i, normF, zq6l, zq8a, zq8c, zq88, zq9y, t75n0, T75n0, zq5c, zq1o, nth, zq1k, dropL, takeL, zq19, zq18, zq5a, zq14, Nat.add_zero, zq61, zq4h, zq00, zq92, zq4g, zq4f, zq50])
 refine fun g1 => ⟨memV_keys _, _, rfl, .val (.int .u64 (memF m p.1)), by rw [mgetD_mem]; rfl, ?_⟩
 dsimp only [zq04, zq96, zq9b, zq0i, zq9d, YK, zq8t, Y_k, zq4u, zq8o, zq6n, Nat.reduceBEq, zq6k, zq9i, normF, zq6l, zq87, zq8c, zq88, zq9x]
 refine ret_rule (vs := [.bool (memF m p.1 != p.2)]) r75 rfl rfl fun W hW => hR _ _ ⟨rfl, ?_⟩
 exact HeapOk.env (E := ⟨b0, N, st, 11, []⟩) (E' := ⟨b0, N, st, nt0, mk0⟩) rfl rfl rfl (HeapOk.pre (H' := boxM g gc m) hW (by simp [boxM, scpO]; rfl))
end Go.Proofs.Ytnedgfkgmdoahaa
namespace Go.Proofs.Ytnedgfkgmdoahaa
open Go Go.Sx Go.Hs
set_option maxRecDepth 100000
theorem ok75 : fnOk Try.prog 75 = true := by kernel_rfl
def badP (m : List Pr) (p : Pr) : Bool := memF m p.1 != p.2
def fstB (m : List Pr) (l : List Pr) : Int := match l.findIdx? (badP m) with | some i => i | none => -1
theorem fstB_nn (m l : List Pr) : decide (fstB m l ≥ 0) = l.any (badP m) := by
 unfold fstB
 cases h : l.findIdx? (badP m) with
 | none =>
  have := List.findIdx?_eq_none_iff.1 h
  symm
  simpa using this
 | some i =>
  have h1 := List.findIdx?_eq_some_iff_getElem.1 h
  obtain ⟨h2, h3, _⟩ := h1
  have h4 : l.any (badP m) = true := List.any_eq_true.2 ⟨_, List.getElem_mem h2, h3⟩
  rw [h4]; simp
theorem find79b {E0 : Env} {W : World} (A : Option Addr) (c : Nat) (l : List Pr) (m : List Pr) (g gc : Nat) (hW : HeapOk E0 (boxM g gc m) W) (hA : RowE E0 A (cellsPr l)) (hl : l.length ≤ 1000000) :
  CallsV Try.prog 79 [.slice A l.length c, .func (.func 75) #[] #[.pointer (some ⟨gc, 0, none⟩)]] W fun v W' => v = .int .i64 (fstB m l) ∧ HeapOk E0 (boxM g gc m) W' := by
 obtain ⟨b0, N, st, nt0, mk0⟩ := E0
 refine calls_lent (keep := K79) (nt := 19) (svs := [.val (.slice A l.length c), .val (.func (.func 75) #[] #[.pointer (some ⟨gc, 0, none⟩)])]) Try.func79 x79 n79 (by simp) hW (by simp [IsL, Is]) fun R hR => ?_
 have hAE : RowE ⟨b0, N, st, 19, []⟩ A (cellsPr l) := hA.env rfl rfl rfl
 have back : ∀ {v : Int} {W : World}, v = fstB m l → HeapOk ⟨b0, N, st, 19, []⟩ (boxM g gc m) W → R (.int .i64 v) W := fun hv hW => hR _ _ ⟨by rw [hv], HeapOk.env (E := ⟨b0, N, st, 19, []⟩) (E' := ⟨b0, N, st, nt0, mk0⟩) rfl rfl rfl hW⟩
 simp only [boxM]
 (refine Y_go 600 ?_; dsimp only [X79, numF, Nat.reduceAdd, zq9r, zq9q, Y_k, zq4u, zq8p, zq6q, YK, zq8t, zq9i, normF, zq6n, Nat.reduceBEq, zq6l, zq6k, zq6m, zq86, zq87, zq9y, t79n6, T79n6, zq8o, zq55, zq0r, zq9t, zq9v])
 refine loop_go (α := Nat) (fun i => i ≤ l.length ∧ ∀ j (h : j < l.length), j < i → badP m l[j] = false) (fun _ => ⟨b0, N, st, 19, []⟩)
  (fun i => { F := [(0, .val (.slice A l.length c)), (1, .val (.func (.func 75) #[] #[.pointer (some ⟨gc, 0, none⟩)])), (7, .val (.int .i64 l.length)), (8, .val (.int .i64 i))], H := [.map g (memV m), .cells gc 132 [.mp 0]] }) (fun i => l.length - i) (fun _ => rfl) ?start ?round
 case start =>
  intro a' W rep
  refine ⟨0, ⟨Nat.zero_le _, fun j _ hj => by omega⟩, rep.le ?_ ?_⟩ <;> (simp only [setn, List.nil_append, List.cons_append, leF, leH_nil, leH_cons, leF_nil, lk, scp, scpL, scpO, resF, resH, resO, resV, resVL, nth, Nat.reduceBEq, Nat.reduceLT, decide_true, decide_false, List.length, List.length_cons, List.length_nil, Nat.reduceAdd, Bool.and_self, Bool.and_true, and_true, true_and, numF] <;> try simp)
 case round =>
  rintro i ⟨hi, hn⟩ I hI
  have hi : i ≤ l.length := hi
  (refine Y_go 600 ?_; dsimp only [zq9y, t79n4, T79n4, zq9r, zq9q, Y_k, zq50, zq8o, zq6n, Nat.reduceBEq, zq6l, zq6k, zq04, zq92, zq9b, zq0i, zq9e, YK, zq8t, zq9i, normF, zq6m, zq86, zq87, t79n3, T79n3, zq9s, zq6h, zq8x, YC, zq9p, t79n2, T79n2, zq9t, zq4u, zq89, t79n1, T79n1, zq58, zq06, zq0w, zq5c, zq1p, zq1c, List.nil_append, List.cons_append, zq1b, zq17, zq9k, zq9u, popTo, zq6i, YP, t79n5, T79n5, zq8p, zq6q, zq8a, zq9x])
  refine ⟨fun h => ?_, fun h => ?_⟩
  ·have hlt : i < l.length := by have := of_decide_eq_true h; omega
   have cl : ∀ k v, (prV l[i])[k]? = some v → CellAt ⟨b0, N, st, 19, []⟩ A (i * 2 + k) v := by
    intro k v hk
    have := (List.getElem?_eq_some_iff.1 hk).1
    exact hAE.cell (by rw [cellsPr_get l hlt this]; exact hk)
   refine ⟨⟨by omega, by omega, hAE.isSome (j := i * 2) (by rw [cellsPr_len]; omega)⟩, _, cl 0 _ rfl, _, cl 1 _ rfl, ?_⟩
   refine callv_rule (R := fun _ v W' => v = .bool (badP m l[i]) ∧ HeapOk ⟨b0, N, st, 19, []⟩ (boxM g gc m) W') (f := 75) (fst := []) (caps := [.pointer (some ⟨gc, 0, none⟩)]) (vs := [.agg (prV l[i]).toArray]) rfl ok75 rfl (fun W hW => is75 l[i] m g gc hW) fun W v W' hW hv => ⟨.val (.bool (badP m l[i])), [.map g (memV m), .cells gc 132 [.mp 0]], by rw [hv.1]; simp [Is], HExt.refl _, hv.2, ?_⟩
   (refine Y_go 600 ?_; dsimp only [zq8t, zq9i, normF, zq6n, Nat.reduceBEq, zq6l, zq6k, zq6m, zq87, zq89, zq86, zq9s, zq8o, zq6h, zq8x, YC, zq9y, t79n0, T79n0, zq9r, zq9q, Y_k, zq4u, YK, zq9x, zq9p, zqa1, zq4w, zq8p, zq6q, zq04, zq92, zq9b, zq0e, zq8a, zqa2])
   refine ⟨fun hb => ?_, fun hb => ⟨_, .add64 (by omega) (by omega), lend_rule fun a' W rep => hI (i + 1) ⟨by omega, ?_⟩ (by omega) a' W (rep.le ?_ ?_)⟩⟩
   ·refine ret_rule (vs := [.int .i64 i]) r79 rfl rfl fun W hW => back ?_ hW
    have : l.findIdx? (badP m) = some i := List.findIdx?_eq_some_iff_getElem.2 ⟨hlt, hb, fun j hj => by rw [hn j (by omega) hj]; simp⟩
    unfold fstB; rw [this]
   ·intro j hj hji
    by_cases e : j = i
    ·subst e; exact hb
    ·exact hn j hj (by omega)
   ·(simp only [setn, List.nil_append, List.cons_append, leF, leH_nil, leH_cons, leF_nil, lk, scp, scpL, scpO, resF, resH, resO, resV, resVL, nth, Nat.reduceBEq, Nat.reduceLT, decide_true, decide_false, List.length, List.length_cons, List.length_nil, Nat.reduceAdd, Bool.and_self, Bool.and_true, and_true, true_and, numF] <;> try simp)
   ·(simp only [setn, List.nil_append, List.cons_append, leF, leH_nil, leH_cons, leF_nil, lk, scp, scpL, scpO, resF, resH, resO, resV, resVL, nth, Nat.reduceBEq, Nat.reduceLT, decide_true, decide_false, List.length, List.length_cons, List.length_nil, Nat.reduceAdd, Bool.and_self, Bool.and_true, and_true, true_and, numF] <;> try simp)
  ·have hil : i = l.length := by have := of_decide_eq_false h; omega
   subst hil
   refine ret_rule (vs := [.int .i64 (-1)]) r79 rfl rfl fun W hW => back ?_ hW
   have : l.findIdx? (badP m) = none := by
    rw [List.findIdx?_eq_none_iff]
    intro x hx
    obtain ⟨j, hj, rfl⟩ := List.getElem_of_mem hx
    exact hn j hj hj
   unfold fstB; rw [this]
theorem any74 {E0 : Env} {W : World} (A : Option Addr) (c : Nat) (l : List Pr) (m : List Pr) (g gc : Nat) (hW : HeapOk E0 (boxM g gc m) W) (hA : RowE E0 A (cellsPr l)) (hl : l.length ≤ 1000000) :
  CallsV Try.prog 74 [.slice A l.length c, .func (.func 75) #[] #[.pointer (some ⟨gc, 0, none⟩)]] W fun v W' => v = .bool (l.any (badP m)) ∧ HeapOk E0 (boxM g gc m) W' := by
 obtain ⟨b0, N, st, nt0, mk0⟩ := E0
 refine calls_lent (keep := K74) (nt := 9) (svs := [.val (.slice A l.length c), .val (.func (.func 75) #[] #[.pointer (some ⟨gc, 0, none⟩)])]) Try.func74 x74 n74 (by simp) hW (by simp [IsL, Is]) fun R hR => ?_
 have hAE : RowE ⟨b0, N, st, 9, []⟩ A (cellsPr l) := hA.env rfl rfl rfl
 simp only [boxM]
 (refine Y_go 600 ?_; dsimp only [X74, numF, Nat.reduceAdd, zq9r, zq9q, Y_k, zq4u, zq8p, zq6p, YK, zq8t, zq9i, normF, zq6n, Nat.reduceBEq, zq6l, zq6k, zq8a, zq87, zq9y, t74n0, T74n0, zq8o, zq9j])
 refine call_rule (vs := [.slice A l.length c, .func (.func 75) #[] #[.pointer (some ⟨gc, 0, none⟩)]]) rfl (R := fun _ v W' => v = .int .i64 (fstB m l) ∧ HeapOk ⟨b0, N, st, 9, []⟩ (boxM g gc m) W') (fun W hW => find79b A c l m g gc hW hAE hl) fun W v W' hW hv => ⟨.val (.int .i64 (fstB m l)), [.map g (memV m), .cells gc 132 [.mp 0]], by rw [hv.1]; simp [Is], HExt.refl _, hv.2, ?_⟩
 (refine Y_go 600 ?_; dsimp only [zq8t, Y_k, zq50, zq8o, zq6n, Nat.reduceBEq, zq6k, zq8p, zq6q, zq04, zq92, zq9b, zq0i, zq9h, YK, zq4u, zq9i, normF, zq6l, zq87, zq9x])
 refine ret_rule (vs := [.bool _]) r74 rfl rfl fun W hW => hR _ _ ⟨by rw [fstB_nn]; rfl, HeapOk.env (E := ⟨b0, N, st, 9, []⟩) (E' := ⟨b0, N, st, nt0, mk0⟩) rfl rfl rfl hW⟩
end Go.Proofs.Ytnedgfkgmdoahaa
