/- shuntref12.touches, Races, Tally. -/
import Derived.Test.YtnedgfkgmdoahaaHsX4
import Derived.Test.YtnedgfkgmdoahaaHsCodeT
set_option linter.unusedSimpArgs false
set_option linter.unusedVariables false
set_option linter.unnecessarySimpa false
namespace Go.Proofs.Ytnedgfkgmdoahaa
open Go Go.Sx Go.Hs
set_option maxRecDepth 100000
def tchB (x : At) (a : Int) (n : Nat) (e : Ev) : Bool := ownN x n e && ((e.kind == 2 || e.kind == 3) && e.addr == a)
def touN (h : List Ev) (x : At) (a : Int) : Nat → Bool
 | 0 => false
 | n + 1 => touN h x a n || (decide (x.frm ≤ n) && ((decide (x.to < 0) || decide ((n : Int) < x.to)) && tchB x a n (evA h n)))
theorem touN_mono (h : List Ev) (x : At) (a : Int) {n m : Nat} (hm : n ≤ m) (ht : touN h x a n = true) : touN h x a m = true := by
 induction m with
 | zero => have : n = 0 := by omega
           subst this; exact ht
 | succ m ih =>
  by_cases e : n = m + 1
  ·rw [← e]; exact ht
  ·simp only [touN]; rw [ih (by omega)]; rfl
theorem touN_stop (h : List Ev) (x : At) (a : Int) {n m : Nat} (hm : n ≤ m) (h0 : 0 ≤ x.to) (h1 : x.to ≤ n) : touN h x a m = touN h x a n := by
 induction m with
 | zero => have : n = 0 := by omega
           subst this; rfl
 | succ m ih =>
  by_cases e : n = m + 1
  ·rw [← e]
  ·simp only [touN]
   rw [ih (by omega), decide_eq_false (by omega : ¬ x.to < 0), decide_eq_false (by omega : ¬ (m : Int) < x.to)]; simp
theorem touN_low (h : List Ev) (x : At) (a : Int) : ∀ {n : Nat}, (n : Int) ≤ x.frm → touN h x a n = false
 | 0, _ => rfl
 | n + 1, hn => by
  simp only [touN]
  rw [touN_low h x a (by omega), decide_eq_false (by omega : ¬ x.frm ≤ (n : Int))]; rfl
theorem touches59 (A : Option Addr) (c : Nat) (h : List Ev) (x : At) (hd : Hd) (a : Int) (w : World) (hA : RowAt w A (cellsE h)) (hl : h.length ≤ 1000) (hf : 0 ≤ x.frm) (hf2 : x.frm ≤ h.length) :
  CallsV Try.prog 59 [.slice A h.length c, .agg (cellsT x hd).toArray, .int .i64 a] w fun v w' => v = .bool (touN h x a h.length) ∧ Fresh w w' := by
 refine calls_go (keep := K59) (nt := 58) (svs := [.val (.slice A h.length c), .agg (svB x hd), .val (.int .i64 a)]) Try.func59 x59 n59 (by simp) (by simp [IsL, Is, svB, cellsT]) fun R hR => ?_
 obtain ⟨f, hfe⟩ : ∃ f : Nat, x.frm = f := ⟨x.frm.toNat, by omega⟩
 (refine Y_go 600 ?_; dsimp only [X59, svB, numF, Nat.reduceAdd, zq9r, zq9q, Y_k, zq5f, zq8o, zq6n, Nat.reduceBEq, zq6l, zq6k, zq7t, List.length_cons, List.length_nil, zq8l, zq73, zq8m, zq77, zq7g, zq8k, zq0a, zq1z, List.nil_append, YK, zq8t, zq4u, zq8p, zq6p, zq9i, normF, zq6m, zq86, zq8a, zq8c, zq87, zq88, zq9y, t59n6, T59n6, zq5a, zq14, zq5c, zq1o, nth, zq1k, dropL, takeL, zq19, zq18, zq9t, zq9v])
 intro g
 have done : ∀ s b, denAll s.H s.F [6] = some [.bool b] → b = touN h x a h.length → RetG (cxOf Try.prog Try.f59 K59 T59 R) ⟨w, w.heap.size, [], 58, []⟩ s := fun s b hs hb =>
  ret_rule (vs := [.bool b]) r59 rfl hs fun W hW => hR _ _ ⟨by rw [hb]; rfl, hW.fresh'⟩
 refine loop_go (α := Nat) (fun n => f ≤ n ∧ n ≤ h.length ∧ touN h x a n = false) (fun _ => ⟨w, w.heap.size, [], 58, []⟩)
  (fun n => { F := [(0, .val (.slice A h.length c)), (2, .val (.int .i64 a)), (4, .ptr 0 0), (7, .val (.int .i64 n))], H := [.cells g 90 (svB x hd)] }) (fun n => h.length - n) (fun _ => rfl) ?start ?round
 case start =>
  intro a' W rep
  refine ⟨f, ⟨Nat.le_refl _, by omega, touN_low h x a (by omega)⟩, rep.le (by (simp only [setn, List.nil_append, List.cons_append, leF, leH_nil, leH_cons, leF_nil, lk, scp, scpL, scpO, resF, resH, resO, resV, resVL, nth, Nat.reduceBEq, Nat.reduceLT, decide_true, decide_false, List.length, List.length_cons, List.length_nil, Nat.reduceAdd, Bool.and_self, Bool.and_true, and_true, true_and, numF] <;> try simp); exact hfe) (by simp only [svB]; (simp only [setn, List.nil_append, List.cons_append, leF, leH_nil, leH_cons, leF_nil, lk, scp, scpL, scpO, resF, resH, resO, resV, resVL, nth, Nat.reduceBEq, Nat.reduceLT, decide_true, decide_false, List.length, List.length_cons, List.length_nil, Nat.reduceAdd, Bool.and_self, Bool.and_true, and_true, true_and, numF] <;> try simp))⟩
 case round =>
  rintro n ⟨hfn, hn, ht⟩ I again
  have hfn : f ≤ n := hfn
  have hn : n ≤ h.length := hn
  simp only [svB]
  (refine Y_go 600 ?_; dsimp only [zq9y, t59n4, T59n4, zq9r, zq9q, Y_k, zq4u, zq8o, zq6n, Nat.reduceBEq, zq6l, zq6k, YK, zq8t, zq55, zq0r, zq50, zq04, zq92, zq9b, zq0i, zq9e, Y_gk, zq6d, YR, zq5a, zq14, Nat.reduceAdd, zq69, zq5c, zq1o, nth, zq1k, List.length_cons, List.length_nil, dropL, takeL, zq19, zq18, zq8p, zq6q, zq6e, YS, zq6a, zq4v, zq6o, zq0b, zq6p, zq9i, normF, zq6m, zq86, zq89, zq87, zq8c, zq9s, zq6f, YC, zq9p, t59n3, T59n3, zq9t, zq17, zq9j, zq6c, zq0c, zq6h, zq8x, zq9u, popTo, zq6i, YP, t59n5, T59n5, zq8a, zq9x, zq6b, zq03, zq6g])
  have hnext : touN h x a (n + 1) = (touN h x a n || (decide (x.frm ≤ n) && ((decide (x.to < 0) || decide ((n : Int) < x.to)) && tchB x a n (evA h n)))) := rfl
  have raw : n < h.length → (x.to < 0 ∨ (n : Int) < x.to) → G (cxOf Try.prog Try.f59 K59 T59 R) ⟨w, w.heap.size, [], 58, []⟩ [.ops [⟨some 31, none, .call 71 [.tmp 28, .tmp 29, .tmp 30]⟩, ⟨some 8, none, .k (.mov (.tmp 31))⟩], .code (.ref 1), .blk 1, .code (.ref 2), .lend I, .blk 0, .code (.ref 5)]
    { F := [(30, .val (.int .i64 n)), (29, .agg (svB x hd)), (28, .val (.slice A h.length c)), (0, .val (.slice A h.length c)), (2, .val (.int .i64 a)), (4, .ptr 0 0), (7, .val (.int .i64 n))], H := [.cells g 90 (svB x hd)] } := by
   intro hlt hto
   have hsome : A.isSome = true := hA.isSome (j := n * 9) (by rw [cellsE_len]; omega)
   have cl : ∀ k v, (evA h n).cells[k]? = some v → CellAt ⟨w, w.heap.size, [], 58, []⟩ A ((n : Int).toNat * 9 + k) v := fun k v hk => evCell (rowE0 hA 58 []) hlt k v hk
   have hb : 0 ≤ (n : Int) ∧ (n : Int) < (h.length : Int) ∧ A.isSome = true := ⟨by omega, by omega, hsome⟩
   have hadd : ArOk .add .i64 (n : Int) 1 ((n + 1 : Nat) : Int) := ArOk.to (by omega) (by omega) (by omega)
   have hcnd : (decide (x.to < 0) || decide ((n : Int) < x.to)) = true := by rw [Bool.or_eq_true, decide_eq_true_eq, decide_eq_true_eq]; exact hto
   rw [ht, hcnd, decide_eq_true (by omega : x.frm ≤ (n : Int)), Bool.false_or, Bool.true_and, Bool.true_and] at hnext
   have hnx : touN h x a (n + 1) = false → ∀ (a' : Act) (W : World), Rep ⟨w, w.heap.size, [], 58, []⟩ { F := [(0, .val (.slice A h.length c)), (2, .val (.int .i64 a)), (4, .ptr 0 0), (7, .val (.int .i64 ((n + 1 : Nat) : Int)))], H := [.cells g 90 (svB x hd)] } a' W → I a' W := fun hf a' W rep => again (n + 1) ⟨by omega, hlt, hf⟩ (by omega) a' W (by simp only [svB] at rep ⊢; exact rep)
   have hyes : touN h x a (n + 1) = true → true = touN h x a h.length := fun hy => (touN_mono h x a hlt hy).symm
   have c0 := cl 0 _ rfl
   have c6 := cl 6 _ rfl
   clear cl again
   refine call_val (R := fun v => v = .bool (ownN x n (evA h n))) (vs := [.slice A h.length c, .agg (cellsT x hd).toArray, .int .i64 n]) rfl (fun W hW => own71 A c h x hd n W (hA.keep hW.fresh') hlt) fun v hv => ⟨bsv (ownN x n (evA h n)), by rw [hv]; cases ownN x n (evA h n) <;> simp [Is, bsv], ?_⟩
   cases hown : ownN x n (evA h n) with
   | false =>
    simp only [bsv, svB]
    (refine Y_go 600 ?_; dsimp only [zq8t, Y_k, zq4u, zq8o, zq6n, Nat.reduceBEq, zq6k, YK, zq9i, normF, zq6l, zq6m, zq86, zq8a, zq87, zq8c, zq9y, t59n1, T59n1, zq9r, zq9q, Y_gk, zq6b, YS, zq03, zq4v, zq8p, zq6p, zq0c, zq9s, zq6g, YC, zq9p, zqa1, t59n2, T59n2, zq4w, zq6q, zq04, zq92, zq9b, zq0e, zqa2])
    refine ⟨_, hadd, lend_rule fun a' W rep => hnx ?_ a' W (rep.le (by (simp only [setn, List.nil_append, List.cons_append, leF, leH_nil, leH_cons, leF_nil, lk, scp, scpL, scpO, resF, resH, resO, resV, resVL, nth, Nat.reduceBEq, Nat.reduceLT, decide_true, decide_false, List.length, List.length_cons, List.length_nil, Nat.reduceAdd, Bool.and_self, Bool.and_true, and_true, true_and, numF] <;> try simp)) (by simp only [svB]; (simp only [setn, List.nil_append, List.cons_append, leF, leH_nil, leH_cons, leF_nil, lk, scp, scpL, scpO, resF, resH, resO, resV, resVL, nth, Nat.reduceBEq, Nat.reduceLT, decide_true, decide_false, List.length, List.length_cons, List.length_nil, Nat.reduceAdd, Bool.and_self, Bool.and_true, and_true, true_and, numF] <;> try simp)))⟩
    rw [hnext]; unfold tchB; rw [hown]; rfl
   | true =>
    have hnext : touN h x a (n + 1) = (((evA h n).kind == 2 || (evA h n).kind == 3) && (evA h n).addr == a) := by rw [hnext]; unfold tchB; rw [hown]; rfl
    have hn2 : touN h x a (n + 1) = true ↔ ((evA h n).kind = 2 ∨ (evA h n).kind = 3) ∧ (evA h n).addr = a := by rw [hnext]; simp
    clear hnext ht hcnd hown
    generalize evA h n = e at *
    simp only [bsv, svB]
    (refine Y_go 600 ?_; dsimp only [zq8t, Y_k, zq4u, zq8o, zq6n, Nat.reduceBEq, zq6k, YK, zq9i, normF, zq6l, zq6m, zq86, zq89, zq87, zq8c, zq9y, t59n1, T59n1, zq9r, zq9q, Y_gk, zq69, YR, zq58, zq06, zq0w, zq5a, zq16, Nat.add_zero, zq5c, zq1p, zq1c, List.nil_append, zq1b, zq18, zq50, zq8p, zq6q, zq04, zq92, zq9b, zq0i, zq9c, zq6e, YS, zq6a, zq4v, zq6o, zq0b, zq6p, zq9s, zq6h, zq8x, YC, t59n0, T59n0, zq9x, zq9p, zqa1, t59n2, T59n2, zq4w, zq0e, zq8a, zqa2, zq6c, zq0c, zq6d, zq6b, zq6g])
    repeat' first
     | refine ⟨hb, hsome, _, c0, ?_⟩
     | refine ⟨hb, hsome, _, c6, ?_⟩
     | refine ⟨fun q => ?_, fun q => ?_⟩ <;> simp only [beq_iff_eq, beq_eq_false_iff_ne, ne_eq] at q
     | (refine done _ true rfl (hyes (hn2.2 ?_))
        omega)
     | (refine ⟨_, hadd, lend_rule fun a' W rep => hnx ?_ a' W (rep.le ?_ ?_)⟩
        rotate_left
        · (simp only [setn, List.nil_append, List.cons_append, leF, leH_nil, leH_cons, leF_nil, lk, scp, scpL, scpO, resF, resH, resO, resV, resVL, nth, Nat.reduceBEq, Nat.reduceLT, decide_true, decide_false, List.length, List.length_cons, List.length_nil, Nat.reduceAdd, Bool.and_self, Bool.and_true, and_true, true_and, numF] <;> try simp)
          done
        · simp only [svB]
          (simp only [setn, List.nil_append, List.cons_append, leF, leH_nil, leH_cons, leF_nil, lk, scp, scpL, scpO, resF, resH, resO, resV, resVL, nth, Nat.reduceBEq, Nat.reduceLT, decide_true, decide_false, List.length, List.length_cons, List.length_nil, Nat.reduceAdd, Bool.and_self, Bool.and_true, and_true, true_and, numF] <;> try simp)
          done
        rw [Bool.eq_false_iff]
        intro hh
        have := hn2.1 hh
        omega)
     | fail
  refine ⟨fun hlt => ⟨fun hto => ?_, fun hto => ⟨fun hto2 => ?_, fun hto2 => ?_⟩⟩, fun hge => ?_⟩
  ·exact fun a' W rep => raw (by have := of_decide_eq_true hlt; omega) (.inl (of_decide_eq_true hto)) a' W (rep.le (by simp only [svB]; (simp only [setn, List.nil_append, List.cons_append, leF, leH_nil, leH_cons, leF_nil, lk, scp, scpL, scpO, resF, resH, resO, resV, resVL, nth, Nat.reduceBEq, Nat.reduceLT, decide_true, decide_false, List.length, List.length_cons, List.length_nil, Nat.reduceAdd, Bool.and_self, Bool.and_true, and_true, true_and, numF] <;> try simp)) (by simp only [svB]; (simp only [setn, List.nil_append, List.cons_append, leF, leH_nil, leH_cons, leF_nil, lk, scp, scpL, scpO, resF, resH, resO, resV, resVL, nth, Nat.reduceBEq, Nat.reduceLT, decide_true, decide_false, List.length, List.length_cons, List.length_nil, Nat.reduceAdd, Bool.and_self, Bool.and_true, and_true, true_and, numF] <;> try simp)))
  ·exact fun a' W rep => raw (by have := of_decide_eq_true hlt; omega) (.inr (of_decide_eq_true hto2)) a' W (rep.le (by simp only [svB]; (simp only [setn, List.nil_append, List.cons_append, leF, leH_nil, leH_cons, leF_nil, lk, scp, scpL, scpO, resF, resH, resO, resV, resVL, nth, Nat.reduceBEq, Nat.reduceLT, decide_true, decide_false, List.length, List.length_cons, List.length_nil, Nat.reduceAdd, Bool.and_self, Bool.and_true, and_true, true_and, numF] <;> try simp)) (by simp only [svB]; (simp only [setn, List.nil_append, List.cons_append, leF, leH_nil, leH_cons, leF_nil, lk, scp, scpL, scpO, resF, resH, resO, resV, resVL, nth, Nat.reduceBEq, Nat.reduceLT, decide_true, decide_false, List.length, List.length_cons, List.length_nil, Nat.reduceAdd, Bool.and_self, Bool.and_true, and_true, true_and, numF] <;> try simp)))
  ·refine done _ false rfl ?_
   rw [touN_stop h x a hn (by have := of_decide_eq_false hto; omega) (by have := of_decide_eq_false hto2; omega), ht]
  ·have hin : n = h.length := by have := of_decide_eq_false hge; omega
   subst hin
   exact done _ false rfl ht.symm
end Go.Proofs.Ytnedgfkgmdoahaa
