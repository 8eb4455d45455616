/- shuntref12.own, at. -/
import Derived.Test.YtbkpiljencaoeaaGHsW6
import Derived.Test.YtbkpiljencaoeaaGHsW2
import Derived.Test.YtbkpiljencaoeaaGHsCodeT
set_option linter.unusedSimpArgs false
set_option linter.unusedVariables false
set_option linter.unnecessarySimpa false
namespace Go.Proofs.Ytbkpiljencaoeaa
open Go Go.Sx Go.Hs
set_option maxRecDepth 100000
def svB (x : At) (h : Hd) : List SV := [.val (.int .i64 x.core), .val (.int .i64 x.block), .val (.int .i64 x.tr), .val (.int .i64 x.lane), .val (.int .i64 x.frm), .val (.int .i64 x.point), .val (.int .i64 x.to), .val (.slice h.lA x.loads.length h.lc), .val (.slice h.sA x.stores.length h.sc), .val (.bool x.com), .val (.int .i64 x.code)]
def ownN (x : At) (n : Nat) (e : Ev) : Bool := decide (x.frm < n) && ownB x e
theorem ownN_iff (x : At) (n : Nat) (e : Ev) : ownN x n e = true ↔ x.frm < n ∧ e.core = x.core ∧ e.block = x.block ∧ e.tr = x.tr ∧ 2 ≤ e.kind ∧ e.kind ≤ 6 := by
 unfold ownN ownB; simp
theorem own71 (A : Option Addr) (c : Nat) (h : List Ev) (x : At) (hd : Hd) (n : Nat) (w : World) (hA : RowAt w A (cellsE h)) (hn : n < h.length) :
  CallsV Try.prog 88 [.slice A h.length c, .agg (cellsT x hd).toArray, .int .i64 n] w fun v w' => v = .bool (ownN x n (evA h n)) ∧ Fresh w w' := by
 refine calls_go (keep := K88) (nt := 57) (svs := [.val (.slice A h.length c), .agg (svB x hd), .val (.int .i64 n)]) Try.func88 x88 n88 (by simp) (by simp [IsL, Is, svB, cellsT]) fun R hR => ?_
 have hsome : A.isSome = true := hA.isSome (j := n * 9) (by rw [cellsE_len]; omega)
 have cl : ∀ k v, (evA h n).cells[k]? = some v → CellAt ⟨w, w.heap.size, [], 57, []⟩ A ((n : Int).toNat * 9 + k) v := fun k v hk => evCell (rowE0 hA 57 []) hn k v hk
 have hb : 0 ≤ (n : Int) ∧ (n : Int) < (h.length : Int) ∧ A.isSome = true := ⟨by omega, by omega, hsome⟩
 have done : ∀ s b, denAll s.H s.F [6] = some [.bool b] → (b = true ↔ (x.frm < n ∧ (evA h n).core = x.core ∧ (evA h n).block = x.block ∧ (evA h n).tr = x.tr ∧ 2 ≤ (evA h n).kind ∧ (evA h n).kind ≤ 6)) → RetG (cxOf Try.prog Try.f88 K88 T88 R) ⟨w, w.heap.size, [], 57, []⟩ s := fun s b hs hb =>
  ret_rule (vs := [.bool b]) r88 rfl hs fun W hW => hR _ _ ⟨by rw [show b = ownN x n (evA h n) by rw [Bool.eq_iff_iff, hb, ownN_iff]]; rfl, hW.fresh'⟩
 clear hR
 have c0 := cl 0 _ rfl
 have c2 := cl 2 _ rfl
 have c3 := cl 3 _ rfl
 have c4 := cl 4 _ rfl
 clear cl
 generalize evA h n = e at *
 (refine Y_go 600 ?_; dsimp only [X88, svB, numF, Nat.reduceAdd, zq9r, zq9q, Y_k, zq5f, zq8o, zq6n, Nat.reduceBEq, zq6l, zq6k, zq7t, List.length_cons, List.length_nil, zq8l, zq73, zq8m, zq77, zq7g, zq8k, zq0a, zq1z, List.nil_append, YK, zq8t, zq4u, zq8p, zq6p, zq9i, normF, zq8a, zq8c, zq87, zq88, zq9y, t88n0, T88n0, zq5a, zq14, zq5c, zq1o, nth, zq1k, dropL, takeL, zq19, zq18, zq50, zq04, zq92, zq9b, zq0i, zq9g, Y_gk, zq6d, YR, zq69, zq58, zq06, zq0w, zq16, zq1p, zq1c, zq1b, Nat.add_zero, zq9c, zq4v, zq0b, zq6q, zq9h, zq9f, zq9x, YS, zq6b, zq0c])
 intro g
 repeat' first
  | refine ⟨fun q => ?_, fun q => ?_⟩ <;> simp only [decide_eq_true_eq, decide_eq_false_iff_not, beq_iff_eq, beq_eq_false_iff_ne, ne_eq] at q
  | refine ⟨hb, hsome, _, c0, ?_⟩
  | refine ⟨hb, hsome, _, c2, ?_⟩
  | refine ⟨hb, hsome, _, c3, ?_⟩
  | refine ⟨hb, hsome, _, c4, ?_⟩
  | (refine done _ _ rfl ?_
     simp only [decide_eq_true_eq, Bool.false_eq_true, false_iff, true_iff]
     omega)
  | fail
theorem at72 (A : Option Addr) (c : Nat) (l : List Pr) (a : Int) (w : World) (hA : RowAt w A (cellsPr l)) (hl : l.length ≤ 1000000) :
  CallsV Try.prog 89 [.slice A l.length c, .int .i64 a] w fun v w' => v = .int .i64 (findI l a) ∧ Fresh w w' := by
 refine calls_go (keep := K89) (nt := 20) (svs := [.val (.slice A l.length c), .val (.int .i64 a)]) Try.func89 x89 n89 (by simp) (by simp [IsL, Is]) fun R hR => ?_
 (refine Y_go 600 ?_; dsimp only [X89, numF, Nat.reduceAdd, zq9r, zq9q, Y_k, zq4u, zq8p, zq6q, YK, zq8t, zq9i, normF, zq6n, Nat.reduceBEq, zq6l, zq6k, zq6m, zq86, zq87, zq9y, t89n5, T89n5, zq9t, zq9v])
 refine loop_go (α := Nat) (fun i => i ≤ l.length ∧ ∀ j, j < i → (l.getD j (0, 0)).1 ≠ a) (fun _ => ⟨w, w.heap.size, [], 20, []⟩)
  (fun i => { F := [(0, .val (.slice A l.length c)), (1, .val (.int .i64 a)), (5, .val (.int .i64 i))], H := [] }) (fun i => l.length - i) (fun _ => rfl) ?start ?round
 case start =>
  intro a' W rep
  exact ⟨0, ⟨Nat.zero_le _, fun j hj => by omega⟩, rep.le (by (simp only [setn, List.nil_append, List.cons_append, leF, leH_nil, leH_cons, leF_nil, lk, scp, scpL, scpO, resF, resH, resO, resV, resVL, nth, Nat.reduceBEq, Nat.reduceLT, decide_true, decide_false, List.length, List.length_cons, List.length_nil, Nat.reduceAdd, Bool.and_self, Bool.and_true, and_true, true_and, numF] <;> try simp)) (by (simp only [setn, List.nil_append, List.cons_append, leF, leH_nil, leH_cons, leF_nil, lk, scp, scpL, scpO, resF, resH, resO, resV, resVL, nth, Nat.reduceBEq, Nat.reduceLT, decide_true, decide_false, List.length, List.length_cons, List.length_nil, Nat.reduceAdd, Bool.and_self, Bool.and_true, and_true, true_and, numF] <;> try simp))⟩
 case round =>
  rintro i ⟨hi, hn⟩ I again
  have hi : i ≤ l.length := hi
  (refine Y_go 600 ?_; dsimp only [zq9y, t89n3, T89n3, zq9r, zq9q, Y_k, zq4u, zq8o, zq6n, Nat.reduceBEq, zq6l, zq6k, YK, zq8t, zq55, zq0r, zq50, zq04, zq92, zq9b, zq0i, zq9e, zq9i, normF, zq6m, zq86, zq87, zq9s, zq6h, zq8x, YC, zq9p, t89n2, T89n2, zq9t, zq58, zq06, zq0w, zq5a, zq16, Nat.add_zero, zq5c, zq1p, zq1c, List.nil_append, zq1b, zq18, zq9c, zq89, t89n0, T89n0, zq9x, zqa1, t89n1, T89n1, zq4w, zq8p, zq6q, zq0e, zq8a, zqa2, zq9u, popTo, zq6i, YP, t89n4, T89n4])
  refine ⟨fun hlt => ?_, fun hge => ?_⟩
  ·have hlt : i < l.length := by have := of_decide_eq_true hlt; omega
   have hsome : A.isSome = true := hA.isSome (j := i * 2) (by rw [cellsPr_len]; omega)
   have c0 : CellAt ⟨w, w.heap.size, [], 20, []⟩ A ((i : Int).toNat * 2) (.int .i64 (l.getD i (0, 0)).1) := by
    rw [Int.toNat_natCast, ← prs_get hlt]
    exact hA.cell (j := i * 2) (by have := cellsPr_get l hlt (k := 0) (by omega); rw [Nat.add_zero] at this; rw [this]; rfl)
   refine ⟨⟨by omega, by omega, hsome⟩, hsome, _, c0, fun hb => ?_, fun hb => ⟨((i + 1 : Nat) : Int), ArOk.to (by omega) (by omega) (by omega), lend_rule fun a' W rep => again (i + 1) ⟨hlt, ?_⟩ (by omega) a' W (rep.le (by (simp only [setn, List.nil_append, List.cons_append, leF, leH_nil, leH_cons, leF_nil, lk, scp, scpL, scpO, resF, resH, resO, resV, resVL, nth, Nat.reduceBEq, Nat.reduceLT, decide_true, decide_false, List.length, List.length_cons, List.length_nil, Nat.reduceAdd, Bool.and_self, Bool.and_true, and_true, true_and, numF] <;> try simp)) (by (simp only [setn, List.nil_append, List.cons_append, leF, leH_nil, leH_cons, leF_nil, lk, scp, scpL, scpO, resF, resH, resO, resV, resVL, nth, Nat.reduceBEq, Nat.reduceLT, decide_true, decide_false, List.length, List.length_cons, List.length_nil, Nat.reduceAdd, Bool.and_self, Bool.and_true, and_true, true_and, numF] <;> try simp)))⟩⟩
   ·refine ret_rule (vs := [.int .i64 i]) r89 rfl rfl fun W hW => hR _ _ ⟨?_, hW.fresh'⟩
    have : findN l a = some i := findN_at hlt (eq_of_beq hb) hn
    unfold findI; rw [this]; rfl
   ·intro j hj
    by_cases e : j = i
    ·subst e; intro e; rw [e] at hb; simp at hb
    ·exact hn j (by omega)
  ·have hil : i = l.length := by have := of_decide_eq_false hge; omega
   subst hil
   refine ret_rule (vs := [.int .i64 (-1)]) r89 rfl rfl fun W hW => hR _ _ ⟨?_, hW.fresh'⟩
   have : findN l a = none := by
    cases hf : findN l a with
    | none => rfl
    | some k => obtain ⟨h1, h2, _⟩ := findN_some hf; exact absurd h2 (hn k h1)
   unfold findI; rw [this]; rfl
end Go.Proofs.Ytbkpiljencaoeaa
