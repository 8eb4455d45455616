/- hist.find, hard, plain, may: what they answer. -/
import Derived.Test.YtbkpiljencaoeaaHsPlain
import Derived.Test.YtbkpiljencaoeaaGHsCode
import Derived.Test.YtbkpiljencaoeaaSxStill
set_option linter.unusedSimpArgs false
set_option linter.unusedVariables false
set_option linter.unnecessarySimpa false
namespace Go.Proofs.Ytbkpiljencaoeaa
open Go Go.Sx Go.Hs
set_option maxRecDepth 100000
theorem is80 (p : Pr) (a : Int) (C : Option Addr) (w : World) (hC : RowAt w C [.int .i64 a]) : CallsV Try.prog 90 [.agg (prV p).toArray, .pointer C] w fun v w' => v = .bool (p.1 == a) ∧ Fresh w w' := by
 refine calls_go (keep := K90) (nt := 8) (svs := [.agg [.val (.int .i64 p.1), .val (.int .u64 p.2)], .adr C 0]) Try.func90 x90 n90 (by simp) (by obtain ⟨c, rfl, _⟩ := hC 0 _ rfl; simp [IsL, Is, prV, Addr.add]) fun R hR => ?_
 (refine Y_go 600 ?_; dsimp only [X90, numF, Nat.reduceAdd, zq9r, zq9q, Y_k, zq5f, zq8o, zq6n, Nat.reduceBEq, zq6k, zq7t, List.length_cons, List.length_nil, zq8l, zq73, zq8m, zq8k, zq0a, zq1z, List.nil_append, YK, zq8t, zq4u, zq8p, zq6p, zq9i, normF, zq6l, zq8a, zq8c, zq8d, zq88, zq9y, t90n0, T90n0, zq5a, zq14, Nat.add_zero, zq5c, zq1o, nth, zq1k, dropL, takeL, zq19, zq18, zq1p, zq1c, zq1b, zq50, zq04, zq92, zq9b, zq0i, zq9c, zq87, zq9x])
 intro g1
 refine ⟨_, hC.cell (j := 0) rfl, ?_⟩
 exact ret_rule (vs := [.bool _]) r90 rfl rfl fun W hW => hR _ _ ⟨rfl, hW.fresh'⟩
theorem ok80 : fnOk Try.prog 90 = true := by kernel_rfl
theorem prs_get {l : List Pr} {i : Nat} (hi : i < l.length) : l[i] = l.getD i (0, 0) := by rw [List.getD_eq_getElem?_getD, List.getElem?_eq_getElem hi]; rfl
theorem find79 (A : Option Addr) (c : Nat) (l : List Pr) (a : Int) (C : Option Addr) (w : World) (hA : RowAt w A (cellsPr l)) (hC : RowAt w C [.int .i64 a]) (hl : l.length ≤ 1000000) :
  CallsV Try.prog 70 [.slice A l.length c, .func (.func 90) #[] #[.pointer C]] w fun v w' => v = .int .i64 (findI l a) ∧ Fresh w w' := by
 refine calls_go (keep := K70) (nt := 19) (svs := [.val (.slice A l.length c), .val (.func (.func 90) #[] #[.pointer C])]) Try.func70 x70 n70 (by simp) (by simp [IsL, Is]) fun R hR => ?_
 (refine Y_go 600 ?_; dsimp only [X70, numF, Nat.reduceAdd, zq9r, zq9q, Y_k, zq4u, zq8p, zq6q, YK, zq8t, zq9i, normF, zq6n, Nat.reduceBEq, zq6l, zq6k, zq6m, zq86, zq87, zq9y, t70n6, T70n6, zq8o, zq55, zq0r, zq9t, zq9v])
 refine loop_go (α := Nat) (fun i => i ≤ l.length ∧ ∀ j, j < i → (l.getD j (0, 0)).1 ≠ a) (fun _ => ⟨w, w.heap.size, [], 19, []⟩)
  (fun i => { F := [(0, .val (.slice A l.length c)), (1, .val (.func (.func 90) #[] #[.pointer C])), (7, .val (.int .i64 l.length)), (8, .val (.int .i64 i))], H := [] }) (fun i => l.length - i) (fun _ => rfl) ?start ?round
 case start =>
  intro a' W rep
  refine ⟨0, ⟨Nat.zero_le _, fun j hj => by omega⟩, rep.le ?_ ?_⟩ <;> (simp only [setn, List.nil_append, List.cons_append, leF, leH_nil, leH_cons, leF_nil, lk, scp, scpL, scpO, resF, resH, resO, resV, resVL, nth, Nat.reduceBEq, Nat.reduceLT, decide_true, decide_false, List.length, List.length_cons, List.length_nil, Nat.reduceAdd, Bool.and_self, Bool.and_true, and_true, true_and, numF] <;> try simp)
 case round =>
  rintro i ⟨hi, hn⟩ I hI
  have hi : i ≤ l.length := hi
  (refine Y_go 600 ?_; dsimp only [zq9y, t70n4, T70n4, zq9r, zq9q, Y_k, zq50, zq8o, zq6n, Nat.reduceBEq, zq6l, zq6k, zq04, zq92, zq9b, zq0i, zq9e, YK, zq8t, zq9i, normF, zq6m, zq86, zq87, t70n3, T70n3, zq9s, zq6h, zq8x, YC, zq9p, t70n2, T70n2, zq9t, zq4u, zq89, t70n1, T70n1, zq58, zq06, zq0w, zq5c, zq1p, zq1c, List.nil_append, List.cons_append, zq1b, zq17, zq9k, zq9u, popTo, zq6i, YP, t70n5, T70n5, zq8p, zq6q, zq8a, zq9x])
  refine ⟨fun h => ?_, fun h => ?_⟩
  ·have hlt : i < l.length := by have := of_decide_eq_true h; omega
   have cl : ∀ k v, (prV l[i])[k]? = some v → CellAt ⟨w, w.heap.size, [], 19, []⟩ A (i * 2 + k) v := by
    intro k v hk
    have := (List.getElem?_eq_some_iff.1 hk).1
    exact hA.cell (by rw [cellsPr_get l hlt this]; exact hk)
   refine ⟨⟨by omega, by omega, hA.isSome (j := i * 2) (by rw [cellsPr_len]; omega)⟩, _, cl 0 _ rfl, _, cl 1 _ rfl, ?_⟩
   refine callv_val (R := fun v => v = .bool ((l[i]).1 == a)) (f := 90) (fst := []) (caps := [.pointer C]) (vs := [.agg (prV l[i]).toArray]) rfl ok80 rfl (fun W hW => is80 l[i] a C W (hC.keep hW.fresh')) fun v hv => ⟨.val (.bool ((l[i]).1 == a)), by rw [hv]; simp [Is], ?_⟩
   (refine Y_go 600 ?_; dsimp only [zq8t, zq9i, normF, zq6n, Nat.reduceBEq, zq6l, zq6k, zq6m, zq87, zq89, zq86, zq9s, zq8o, zq6h, zq8x, YC, zq9y, t70n0, T70n0, zq9r, zq9q, Y_k, zq4u, YK, zq9x, zq9p, zqa1, zq4w, zq8p, zq6q, zq04, zq92, zq9b, zq0e, zq8a, zqa2])
   refine ⟨fun hb => ?_, fun hb => ⟨_, .add64 (by omega) (by omega), lend_rule fun a' W rep => hI (i + 1) ⟨by omega, ?_⟩ (by omega) a' W (rep.le ?_ ?_)⟩⟩
   ·refine ret_rule (vs := [.int .i64 i]) r70 rfl rfl fun W hW => hR _ _ ⟨?_, hW.fresh'⟩
    have : findN l a = some i := findN_at hlt (by rw [← prs_get hlt]; exact eq_of_beq hb) hn
    unfold findI; rw [this]; rfl
   ·intro j hj
    by_cases e : j = i
    ·subst e; rw [← prs_get hlt]; intro e; rw [e] at hb; simp at hb
    ·exact hn j (by omega)
   ·(simp only [setn, List.nil_append, List.cons_append, leF, leH_nil, leH_cons, leF_nil, lk, scp, scpL, scpO, resF, resH, resO, resV, resVL, nth, Nat.reduceBEq, Nat.reduceLT, decide_true, decide_false, List.length, List.length_cons, List.length_nil, Nat.reduceAdd, Bool.and_self, Bool.and_true, and_true, true_and, numF] <;> try simp)
   ·(simp only [setn, List.nil_append, List.cons_append, leF, leH_nil, leH_cons, leF_nil, lk, scp, scpL, scpO, resF, resH, resO, resV, resVL, nth, Nat.reduceBEq, Nat.reduceLT, decide_true, decide_false, List.length, List.length_cons, List.length_nil, Nat.reduceAdd, Bool.and_self, Bool.and_true, and_true, true_and, numF] <;> try simp)
  ·have hil : i = l.length := by have := of_decide_eq_false h; omega
   subst hil
   refine ret_rule (vs := [.int .i64 (-1)]) r70 rfl rfl fun W hW => hR _ _ ⟨?_, hW.fresh'⟩
   have : findN l a = none := by
    cases hf : findN l a with
    | none => rfl
    | some k => obtain ⟨h1, h2, _⟩ := findN_some hf; exact absurd h2 (hn k h1)
   unfold findI; rw [this]; rfl
theorem find78 (A : Option Addr) (c : Nat) (l : List Pr) (a : Int) (w : World) (hA : RowAt w A (cellsPr l)) (hl : l.length ≤ 1000000) :
  CallsV Try.prog 76 [.slice A l.length c, .int .i64 a] w fun v w' => v = .int .i64 (findI l a) ∧ Fresh w w' := by
 refine calls_go (keep := K76) (nt := 8) (svs := [.val (.slice A l.length c), .val (.int .i64 a)]) Try.func76 x76 n76 (by simp) (by simp [IsL, Is]) fun R hR => ?_
 (refine Y_go 600 ?_; dsimp only [X76, numF, Nat.reduceAdd, zq9r, zq9q, Y_k, zq5f, zq8o, zq6n, Nat.reduceBEq, zq6l, zq6k, zq7u, zq73, zq0a, zq1z, List.length_nil, List.nil_append, YK, zq8t, zq4u, zq8p, zq6q, zq9i, normF, zq87, zq8c, zq9y, t76n0, T76n0, zq5k, evL, zq9j])
 intro g
 refine call_val (R := fun v => v = .int .i64 (findI l a)) (vs := [.slice A l.length c, .func (.func 90) #[] #[.pointer (some ⟨g, 0, none⟩)]]) rfl (fun W hW => find79 A c l a (some ⟨g, 0, none⟩) W (hA.keep hW.fresh') (hW.cellsAt (i := 0) rfl rfl) hl) fun v hv => ⟨.val (.int .i64 (findI l a)), by rw [hv]; simp [Is], ?_⟩
 (refine Y_go 600 ?_; dsimp only [zq8t, Y_k, zq4u, zq8o, zq6n, Nat.reduceBEq, zq6k, YK, zq9i, normF, zq6l, zq87, zq8c, zq9x])
 exact ret_rule (vs := [.int .i64 _]) r76 rfl rfl fun W hW => hR _ _ ⟨rfl, hW.fresh'⟩
theorem plain55 (e : Ev) (w : World) : CallsV Try.prog 62 [e.val] w fun v w' => v = .bool (plainB e) ∧ Fresh w w' := by
 refine calls_go (keep := K62) (nt := 11) (svs := [.agg e.sv]) Try.func62 x62 n62 (by simp) (by simp [IsL, Is, Ev.sv, Ev.cells]) fun R hR => ?_
 (refine Y_go 600 ?_; dsimp only [X62, Ev.sv, numF, Nat.reduceAdd, zq9r, zq9q, Y_k, zq5f, zq8o, zq6n, Nat.reduceBEq, zq6k, zq7t, List.length_cons, List.length_nil, zq8l, zq73, zq8m, zq8k, zq0a, zq1z, List.nil_append, YK, zq8t, zq4u, zq8p, zq6p, zq9i, normF, zq6l, zq8a, zq8c, zq88, zq9y, t62n0, T62n0, zq5a, zq14, Nat.add_zero, zq5c, zq1o, nth, zq1k, dropL, takeL, zq19, zq18, zq50, zq6q, zq04, zq92, zq9b, zq0i, zq9c, Y_gk, zq6e, YS, zq6a, zq4v, zq6o, zq0b, zq89, zq9x, YR, zq6c, zq0c, zq87])
 intro g1
 refine ⟨fun h => ?_, fun h => ?_⟩
 ·refine ret_rule (vs := [.bool true]) r62 rfl rfl fun W hW => hR _ _ ⟨?_, hW.fresh'⟩
  unfold plainB; rw [h]; rfl
 ·refine ret_rule (vs := [.bool _]) r62 rfl rfl fun W hW => hR _ _ ⟨?_, hW.fresh'⟩
  unfold plainB; rw [h]; rfl
theorem hard56 (x : At) (h : Hd) (A : Option Addr) (w : World) (hA : RowAt w A (cellsA x h)) : CallsV Try.prog 75 [.pointer A] w fun v w' => v = .bool (hardB x) ∧ Fresh w w' := by
 obtain ⟨c, rfl, _⟩ := hA 0 _ rfl
 refine calls_go (keep := K75) (nt := 17) (svs := [.adr (some c) 0]) Try.func75 x75 n75 (by simp) (by simp [IsL, Is, Addr.add]) fun R hR => ?_
 (refine Y_go 600 ?_; dsimp only [X75, numF, Nat.reduceAdd, zq9r, zq9q, Y_k, zq4u, zq8p, zq6p, YK, zq8t, zq9i, normF, zq6n, Nat.reduceBEq, zq6l, zq6k, zq8a, zq8d, zq9y, t75n0, T75n0, zq8o, zq5i, zq2b, zq5a, zq16, Nat.add_zero, zq5c, zq1p, zq1c, List.nil_append, zq1b, zq18, zq50, zq6q, zq04, zq92, zq9b, zq0i, zq9c, Y_gk, zq6e, YS, zq6a, zq4v, zq6o, zq0b, zq89, zq9x, YR, zq6c, zq0c, zq87])
 refine ⟨rfl, rfl, rfl, _, hA.cell (j := 3) rfl, fun h => ?_, fun h => ?_⟩
 ·refine ret_rule (vs := [.bool true]) r75 rfl rfl fun W hW => hR _ _ ⟨?_, hW.fresh'⟩
  unfold hardB; rw [h]; rfl
 ·refine ⟨rfl, rfl, rfl, _, hA.cell (j := 3) rfl, ?_⟩
  refine ret_rule (vs := [.bool _]) r75 rfl rfl fun W hW => hR _ _ ⟨?_, hW.fresh'⟩
  unfold hardB; rw [h]; rfl
theorem mayN_iff (e : Ev) : mayB e none = true ↔ 0 ≤ e.core ∧ e.core < 4 ∧ ((e.kind = 1 ∧ 1 ≤ e.lane ∧ e.lane ≤ 4 ∧ 0 ≤ e.block ∧ 0 ≤ e.tr) ∨ ((e.kind = 7 ∨ e.kind = 8) ∧ 0 ≤ e.addr)) := by
 have hw : wordB e = true ↔ e.kind = 2 ∨ e.kind = 3 ∨ e.kind = 7 ∨ e.kind = 8 := by unfold wordB plainB; simp
 have hp : plainB e = true ↔ e.kind = 7 ∨ e.kind = 8 := by unfold plainB; simp
 unfold mayB
 cases hwv : wordB e <;> cases hpv : plainB e <;> simp only [hwv, hpv] at hw hp ⊢ <;> (try simp at hw) <;> (try simp at hp) <;> (try simp) <;> omega
theorem mayS_iff (e : Ev) (x : At) : mayB e (some x) = true ↔ 0 ≤ e.core ∧ e.core < 4 ∧ 2 ≤ e.kind ∧ e.kind ≤ 6 ∧ ((e.kind = 2 ∨ e.kind = 3) → 0 ≤ e.addr) ∧ x.block = e.block ∧ x.tr = e.tr ∧ (e.kind = 6 → 1 ≤ e.code ∧ e.code ≤ 8) := by
 have hw : wordB e = true ↔ e.kind = 2 ∨ e.kind = 3 ∨ e.kind = 7 ∨ e.kind = 8 := by unfold wordB plainB; simp
 have hp : plainB e = true ↔ e.kind = 7 ∨ e.kind = 8 := by unfold plainB; simp
 unfold mayB
 cases hwv : wordB e <;> cases hpv : plainB e <;> simp only [hwv, hpv] at hw hp ⊢ <;> (try simp at hw) <;> (try simp at hp) <;> (try simp) <;> omega
theorem plainT (e : Ev) : plainB e = true ↔ e.kind = 7 ∨ e.kind = 8 := by unfold plainB; simp
theorem plainF (e : Ev) : plainB e = false ↔ e.kind ≠ 7 ∧ e.kind ≠ 8 := by unfold plainB; simp
theorem may69_none (e : Ev) (w : World) : CallsV Try.prog 61 [e.val, .pointer none] w fun v w' => v = .bool (mayB e none) ∧ Fresh w w' := by
 refine calls_go (keep := K61) (nt := 112) (svs := [.agg e.sv, .adr none 0]) Try.func61 x61 n61 (by simp) (by simp [IsL, Is, Ev.sv, Ev.cells]) fun R hR => ?_
 have done : ∀ s b, denAll s.H s.F [4] = some [.bool b] → (b = true ↔ (0 ≤ e.core ∧ e.core < 4 ∧ ((e.kind = 1 ∧ 1 ≤ e.lane ∧ e.lane ≤ 4 ∧ 0 ≤ e.block ∧ 0 ≤ e.tr) ∨ ((e.kind = 7 ∨ e.kind = 8) ∧ 0 ≤ e.addr)))) → RetG (cxOf Try.prog Try.f61 K61 T61 R) ⟨w, w.heap.size, [], 112, []⟩ s := fun s b hs hb =>
  ret_rule (vs := [.bool b]) r61 rfl hs fun W hW => hR _ _ ⟨by rw [show b = mayB e none by rw [Bool.eq_iff_iff, hb, mayN_iff]]; rfl, hW.fresh'⟩
 have hadr : e.core = e.core := rfl
 (refine Y_go 600 ?_; dsimp only [X61, Ev.sv, numF, Nat.reduceAdd, zq9r, zq9q, Y_k, zq5f, zq8o, zq6n, Nat.reduceBEq, zq6k, zq7t, List.length_cons, List.length_nil, zq8l, zq73, zq8m, zq8k, zq0a, zq1z, List.nil_append, YK, zq8t, zq4u, zq8p, zq6p, zq9i, normF, zq6l, zq6m, zq86, zq8a, zq8c, zq8d, zq88, zq9y, t61n9, T61n9, zq5a, zq14, Nat.add_zero, zq5c, zq1o, nth, zq1k, dropL, takeL, zq19, zq18, zq50, zq6q, zq04, zq92, zq9b, zq0i, zq9c, Y_gk, zq6e, YS, zq6a, zq4v, zq6o, zq0b, zq9l, zq89, t61n8, T61n8, zq9t, zq9e, zq02, zq9s, zq6f, YC, t61n0, T61n0, zq9x, YR, zq6c, zq9g, zq0c, zq9h, zq69, zq87, zq6h, zq8x, t61n6, T61n6, t61n1, T61n1, zq5t, zq3t, zq3q, zq6d, zq9f, zq6b, t61n5, T61n5, zq17, zq9j, YG])
 intro g1
 repeat' first
  | exact done _ _ rfl (by simp only [decide_eq_true_eq, decide_eq_false_iff_not, beq_iff_eq, beq_eq_false_iff_ne, ne_eq, Bool.true_eq_false, Bool.false_eq_true, plainT, plainF, Bool.not_eq_true', Bool.not_eq_false', false_iff, true_iff, Option.isNone_none, Option.isNone_some, bne_iff_ne, bne_eq_false_iff_eq] at * <;> omega)
  | (exfalso; simp only [Option.isNone_none, Option.isNone_some, Bool.true_eq_false, Bool.false_eq_true] at *; done)
  | refine ⟨fun _ => ?_, fun _ => ?_⟩
  | refine ⟨rfl, rfl, rfl, _, hA.cell (j := 1) rfl, fun _ => ?_, fun _ => ?_⟩
  | refine ⟨rfl, rfl, rfl, _, hA.cell (j := 2) rfl, fun _ => ?_, fun _ => ?_⟩
  | (refine call_val (vs := [e.val]) (R := fun v => v = .bool (plainB e)) rfl (fun W hW => plain55 e W) fun v hv => ⟨.val (.bool (plainB e)), by rw [hv]; simp [Is], ?_⟩; (refine Y_go 600 ?_; dsimp only [zq8t, Y_k, zq4u, zq8o, zq6n, Nat.reduceBEq, zq6k, YK, zq9i, normF, zq6l, zq6m, zq86, zq87, zq8a, zq89, zq8c, zq8d, zq88, zq9s, zq6h, zq8x, YC, zq9y, t61n2, T61n2, zq9r, zq9q, zq5t, zq3t, zq3q, zq9x, t61n4, T61n4, Y_gk, zq6e, YS, zq6a, zq4v, zq8p, zq6o, zq0b, zq6f, t61n3, T61n3, zq6p, YR, zq6c, zq5i, zq2b, zq5a, zq16, Nat.add_zero, Nat.reduceAdd, zq5c, zq1p, zq1c, List.nil_append, zq1b, zq18, zq14, zq1o, nth, zq1k, List.length_cons, List.length_nil, dropL, takeL, zq19, zq50, zq04, zq92, zq9b, zq0i, zq9d, zq0c, zq9p, zqa1, t61n7, T61n7, zq6q, zq02, zq9h, zq6d, zq69, zq9f, zq6b, t61n8, T61n8, zq9t, zq9e, t61n0, T61n0, zq9g, t61n6, T61n6, zq9c, t61n1, T61n1, t61n5, T61n5, zq17, zq9j, zq6g]))
  | fail
theorem may69_some (e : Ev) (x : At) (h : Hd) (A : Option Addr) (w : World) (hA : RowAt w A (cellsA x h)) : CallsV Try.prog 61 [e.val, .pointer A] w fun v w' => v = .bool (mayB e (some x)) ∧ Fresh w w' := by
 obtain ⟨c, rfl, _⟩ := hA 0 _ rfl
 refine calls_go (keep := K61) (nt := 112) (svs := [.agg e.sv, .adr (some c) 0]) Try.func61 x61 n61 (by simp) (by simp [IsL, Is, Ev.sv, Ev.cells, Addr.add]) fun R hR => ?_
 have done : ∀ s b, denAll s.H s.F [4] = some [.bool b] → (b = true ↔ (0 ≤ e.core ∧ e.core < 4 ∧ 2 ≤ e.kind ∧ e.kind ≤ 6 ∧ ((e.kind = 2 ∨ e.kind = 3) → 0 ≤ e.addr) ∧ x.block = e.block ∧ x.tr = e.tr ∧ (e.kind = 6 → 1 ≤ e.code ∧ e.code ≤ 8))) → RetG (cxOf Try.prog Try.f61 K61 T61 R) ⟨w, w.heap.size, [], 112, []⟩ s := fun s b hs hb =>
  ret_rule (vs := [.bool b]) r61 rfl hs fun W hW => hR _ _ ⟨by rw [show b = mayB e (some x) by rw [Bool.eq_iff_iff, hb, mayS_iff]]; rfl, hW.fresh'⟩
 (refine Y_go 600 ?_; dsimp only [X61, Ev.sv, numF, Nat.reduceAdd, zq9r, zq9q, Y_k, zq5f, zq8o, zq6n, Nat.reduceBEq, zq6k, zq7t, List.length_cons, List.length_nil, zq8l, zq73, zq8m, zq8k, zq0a, zq1z, List.nil_append, YK, zq8t, zq4u, zq8p, zq6p, zq9i, normF, zq6l, zq6m, zq86, zq8a, zq8c, zq8d, zq88, zq9y, t61n9, T61n9, zq5a, zq14, Nat.add_zero, zq5c, zq1o, nth, zq1k, dropL, takeL, zq19, zq18, zq50, zq6q, zq04, zq92, zq9b, zq0i, zq9c, Y_gk, zq6e, YS, zq6a, zq4v, zq6o, zq0b, zq9l, zq89, t61n8, T61n8, zq9t, zq9e, zq02, zq9s, zq6f, YC, t61n0, T61n0, zq9x, YR, zq6c, zq9g, zq0c, zq9h, zq69, zq87, zq6h, zq8x, t61n6, T61n6, t61n1, T61n1, zq5t, zq3t, zq3q, zq6d, zq9f, zq6b, t61n5, T61n5, zq17, zq9j, YG])
 intro g1
 repeat' first
  | exact done _ _ rfl (by simp only [decide_eq_true_eq, decide_eq_false_iff_not, beq_iff_eq, beq_eq_false_iff_ne, ne_eq, Bool.true_eq_false, Bool.false_eq_true, plainT, plainF, Bool.not_eq_true', Bool.not_eq_false', false_iff, true_iff, Option.isNone_none, Option.isNone_some, bne_iff_ne, bne_eq_false_iff_eq] at * <;> omega)
  | (exfalso; simp only [Option.isNone_none, Option.isNone_some, Bool.true_eq_false, Bool.false_eq_true] at *; done)
  | refine ⟨fun _ => ?_, fun _ => ?_⟩
  | refine ⟨rfl, rfl, rfl, _, hA.cell (j := 1) rfl, fun _ => ?_, fun _ => ?_⟩
  | refine ⟨rfl, rfl, rfl, _, hA.cell (j := 2) rfl, fun _ => ?_, fun _ => ?_⟩
  | (refine call_val (vs := [e.val]) (R := fun v => v = .bool (plainB e)) rfl (fun W hW => plain55 e W) fun v hv => ⟨.val (.bool (plainB e)), by rw [hv]; simp [Is], ?_⟩; (refine Y_go 600 ?_; dsimp only [zq8t, Y_k, zq4u, zq8o, zq6n, Nat.reduceBEq, zq6k, YK, zq9i, normF, zq6l, zq6m, zq86, zq87, zq8a, zq89, zq8c, zq8d, zq88, zq9s, zq6h, zq8x, YC, zq9y, t61n2, T61n2, zq9r, zq9q, zq5t, zq3t, zq3q, zq9x, t61n4, T61n4, Y_gk, zq6e, YS, zq6a, zq4v, zq8p, zq6o, zq0b, zq6f, t61n3, T61n3, zq6p, YR, zq6c, zq5i, zq2b, zq5a, zq16, Nat.add_zero, Nat.reduceAdd, zq5c, zq1p, zq1c, List.nil_append, zq1b, zq18, zq14, zq1o, nth, zq1k, List.length_cons, List.length_nil, dropL, takeL, zq19, zq50, zq04, zq92, zq9b, zq0i, zq9d, zq0c, zq9p, zqa1, t61n7, T61n7, zq6q, zq02, zq9h, zq6d, zq69, zq9f, zq6b, t61n8, T61n8, zq9t, zq9e, t61n0, T61n0, zq9g, t61n6, T61n6, zq9c, t61n1, T61n1, t61n5, T61n5, zq17, zq9j, zq6g]))
  | fail
end Go.Proofs.Ytbkpiljencaoeaa
