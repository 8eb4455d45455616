/- clocks.Ahead; pairs. -/
import Derived.Test.YtnedgfkgmdoahaaClkLaw2
import Derived.Test.YtnedgfkgmdoahaaClkCode
import Derived.Test.YtnedgfkgmdoahaaSxStill
set_option linter.unusedSimpArgs false
set_option linter.unusedVariables false
set_option linter.unnecessarySimpa false
namespace Go.Proofs.Ytnedgfkgmdoahaa
open Go Go.Sx Go.Clk
set_option maxRecDepth 100000
def ahB (cs : List Ck) (i k : Int) : Bool := decide (i < k) && belB (cs.getD i.toNat zck) (cs.getD k.toNat zck)
theorem ahead53 (B : Option Addr) (cc : Nat) (cs : List Ck) (i k : Int) (w : World) (hB : RowAt w B (cellsC cs)) (hi : 0 ≤ i ∧ i < cs.length) (hk : 0 ≤ k ∧ k < cs.length) :
  CallsV Try.prog 53 [.slice B cs.length cc, .int .i64 i, .int .i64 k] w fun v w' => v = .bool (ahB cs i k) ∧ Fresh w w' := by
 refine calls_go (keep := K53) (nt := 21) (svs := [.val (.slice B cs.length cc), .val (.int .i64 i), .val (.int .i64 k)]) Try.func53 x53 n53 (by simp) (by simp [IsL, Is]) fun R hR => ?_
 (refine Y_go 600 ?_; dsimp only [X53, numF, Nat.reduceAdd, zq9r, zq9q, Y_k, zq4u, zq8p, zq6p, YK, zq8t, zq9i, normF, zq6n, Nat.reduceBEq, zq6l, zq6k, zq8a, zq87, zq9y, t53n0, T53n0, zq8o, zq50, zq04, zq92, zq9b, zq0i, zq9e, Y_gk, zq6d, YR, zq69, zq58, zq06, zq0w, zq5c, zq1p, zq1c, List.nil_append, List.cons_append, zq1b, zq17, zq9l, YG, YS, zq6b, zq4v, zq0c, zq9x])
 have cl : ∀ (i : Int), 0 ≤ i → i < cs.length → ∀ j, j < 4 → CellAt ⟨w, w.heap.size, [], 21, []⟩ B (i.toNat * 4 + j) (.int .i64 (cs.getD i.toNat zck j)) := by
  intro i h0 h1 j hj
  have hlt : i.toNat < cs.length := by omega
  refine hB.cell ?_
  rw [cellsC_get cs hlt hj, List.getD_eq_getElem?_getD, List.getElem?_eq_getElem hlt]
  have : j = 0 ∨ j = 1 ∨ j = 2 ∨ j = 3 := by omega
  rcases this with rfl | rfl | rfl | rfl <;> rfl
 have sm : ∀ (i : Int), 0 ≤ i → i < cs.length → B.isSome = true := fun i h0 h1 => hB.isSome (j := i.toNat * 4) (by rw [cellsC_len]; omega)
 refine ⟨fun h => ?_, fun h => ?_⟩
 ·have hlt := of_decide_eq_true h
  refine ⟨⟨hi.1, hi.2, sm i hi.1 hi.2⟩, _, cl i hi.1 hi.2 0 (by omega), _, cl i hi.1 hi.2 1 (by omega), _, cl i hi.1 hi.2 2 (by omega), _, cl i hi.1 hi.2 3 (by omega),
   ⟨hk.1, hk.2, sm i hi.1 hi.2⟩, _, cl k hk.1 hk.2 0 (by omega), _, cl k hk.1 hk.2 1 (by omega), _, cl k hk.1 hk.2 2 (by omega), _, cl k hk.1 hk.2 3 (by omega), ?_⟩
  refine call_val (vs := [.agg (ckV (cs.getD i.toNat zck)).toArray, .agg (ckV (cs.getD k.toNat zck)).toArray]) rfl (fun W hW => below28 _ _ W) fun v hv => ⟨.val (.bool (belB (cs.getD i.toNat zck) (cs.getD k.toNat zck))), by rw [hv]; simp [Is], ?_⟩
  (refine Y_go 600 ?_; dsimp only [zq8t, Y_k, zq4v, zq8o, zq6n, Nat.reduceBEq, zq6k, zq8p, zq6p, zq6l, zq0b, YK, zq4u, zq9i, normF, zq87, zq9x])
  refine ret_rule (vs := [.bool _]) r53 rfl rfl fun W hW => hR _ _ ⟨?_, hW.fresh'⟩
  simp [tupOf, ahB, hlt]
 ·have hlt := of_decide_eq_false h
  refine ret_rule (vs := [.bool false]) r53 rfl rfl fun W hW => hR _ _ ⟨?_, hW.fresh'⟩
  simp [tupOf, ahB, hlt]
theorem clks_getD (l : List Sy) {i : Nat} (h : i < l.length) : (clks l l.length).getD i zck = clk l i := by
 rw [List.getD_eq_getElem?_getD]; simp [clks, h]
theorem clkCall {C : Cx} {l : List Sy} {A : Option Addr} {c : Nat} (hP : C.P = Try.prog)
  {E : Env} {s : SS} {args : List Operand} (hargs : denL s.H (evL s.F args) = some [.slice A l.length c]) (hA : ∀ W, HeapOk E s.H W → RowAt W A (cellsS l)) {d : Option Nat} {ops : List XS} {k : List KI}
  (good : okLs l → ∀ B cc, G C E (.ops ops :: k) { F := putF s.F d (.tup [.own s.H.length 0, .val (.int .i64 0)]), H := s.H ++ [.own 56 0 4 B l.length cc (cellsC (clks l l.length))] })
  (bad : ¬ okLs l → G C E (.ops ops :: k) { F := putF s.F d (.tup [.val (.slice none 0 0), .val (.int .i64 260)]), H := s.H }) :
  G C E (.ops ({ dst := d, guard := none, i := .call 19 args } :: ops) :: k) s := by
 refine call_rule hargs (fun W hW => by rw [hP]; exact clocks19 A c l W (hA W hW)) fun W v W' hW hr => ?_
 obtain ⟨hk, ⟨ho, sv, rfl, hs⟩ | ⟨ho, rfl⟩⟩ := hr
 ·obtain ⟨B, cc, rfl, hx, hh, hi⟩ := hW.gain hs hk
  exact ⟨_, _, by simp only [Is, IsL]; exact ⟨_, ⟨_, _, by simpa only [Is] using hi, ⟨_, _, rfl, rfl, rfl⟩, rfl⟩, rfl⟩, hx, hh, good ho B cc⟩
 ·exact ⟨_, _, by simp only [Is, IsL]; exact ⟨_, ⟨_, _, rfl, ⟨_, _, rfl, rfl, rfl⟩, rfl⟩, rfl⟩, HExt.refl _, hW.freshK hk, bad ho⟩
def inL (l : List Sy) (i : Int) : Prop := 0 ≤ i ∧ i < l.length
instance (l : List Sy) (i : Int) : Decidable (inL l i) := by unfold inL; infer_instance
def aheadV (l : List Sy) (i k : Int) : Value := if okLs l ∧ inL l i ∧ inL l k then .tuple #[.bool (ahB (clks l l.length) i k), .int .i64 0] else .tuple #[.bool false, .int .i64 260]
theorem ahead25 (A : Option Addr) (c : Nat) (l : List Sy) (i k : Int) (w : World) (hA : RowAt w A (cellsS l)) :
  CallsV Try.prog 25 [.slice A l.length c, .int .i64 i, .int .i64 k] w fun v w' => v = aheadV l i k ∧ Fresh w w' := by
 refine calls_go (keep := K25) (nt := 41) (svs := [.val (.slice A l.length c), .val (.int .i64 i), .val (.int .i64 k)]) Try.func25 x25 n25 (by simp) (by simp [IsL, Is]) fun R hR => ?_
 (refine Y_go 600 ?_; dsimp only [X25, numF, Nat.reduceAdd, zq9r, zq9q, Y_k, zq4u, zq8p, zq6p, YK, zq8t, zq6q, zq9i, normF, zq6n, Nat.reduceBEq, zq6l, zq6k, zq6m, zq86, zq87, zq8a, zq9y, t25n3, T25n3, zq8o, zq9j])
 have bad : ∀ s, ¬ (okLs l ∧ inL l i ∧ inL l k) → denAll s.H s.F [6, 7] = some [.bool false, .int .i64 260] → RetG (cxOf Try.prog Try.f25 K25 T25 R) ⟨w, w.heap.size, [], 41, []⟩ s := fun s hn hs =>
  ret_rule r25 rfl hs fun W hW => hR _ _ ⟨by unfold aheadV; rw [if_neg hn]; rfl, hW.fresh'⟩
 refine clkCall (l := l) (A := A) (c := c) rfl rfl (fun W hW => hA.keep hW.fresh') (fun ho B cc => ?_) (fun ho => ?_)
 ·(refine Y_go 600 ?_; dsimp only [List.length_nil, zq8t, List.nil_append, Y_k, zq4u, zq8o, zq6n, Nat.reduceBEq, zq6k, YK, zq5j, zq2f, nth, zq2e, zq6l, zq9i, normF, zq6m, zq86, zq87, zq8f, zq8a, zq9y, t25n2, T25n2, zq9r, zq9q, zq50, zq8p, zq6q, zq04, zq92, zq9b, zq0i, zq9d, Y_gk, zq6e, YS, zq6a, zq4v, zq6o, zq0b, zq89, zq9s, zq6f, YC, t25n0, T25n0, zq6p, zq9x, YR, zq6c, zq9e, zq0c, zq55, zq0r, zq9h, zq6h, zq8x, zq9p, t25n1, T25n1, zq9j])
  refine ⟨fun h => absurd h (by decide), fun _ => ⟨fun h => bad _ (fun q => ?_) rfl, fun h1 => ⟨fun h => bad _ (fun q => ?_) rfl, fun h2 => ⟨fun h => bad _ (fun q => ?_) rfl, fun h3 => ⟨fun h => bad _ (fun q => ?_) rfl, fun h4 => ?_⟩⟩⟩⟩⟩
  ·have := of_decide_eq_true h; have := q.2.1.1; omega
  ·have := of_decide_eq_true h; have := q.2.2.1; omega
  ·have := of_decide_eq_true h; have := q.2.1.2; omega
  ·have := of_decide_eq_true h; have := q.2.2.2; omega
  ·have h1 := of_decide_eq_false h1; have h2 := of_decide_eq_false h2; have h3 := of_decide_eq_false h3; have h4 := of_decide_eq_false h4
   have hin : okLs l ∧ inL l i ∧ inL l k := ⟨ho, ⟨by omega, by omega⟩, ⟨by omega, by omega⟩⟩
   refine call_val (R := fun v => v = .bool (ahB (clks l l.length) i k)) (vs := [.slice B l.length cc, .int .i64 i, .int .i64 k]) rfl (fun W hW => ?_) fun v hv => ⟨.val (.bool (ahB (clks l l.length) i k)), by rw [hv]; simp [Is], ?_⟩
   ·have := ahead53 B cc (clks l l.length) i k W (hW.rowAt (i := 0) rfl) (by rw [clks_len]; exact hin.2.1) (by rw [clks_len]; exact hin.2.2)
    rw [clks_len] at this
    exact this
   ·(refine Y_go 600 ?_; dsimp only [zq8t, Y_k, zq4u, zq8o, zq6n, Nat.reduceBEq, zq6k, YK, zq8p, zq6q, zq9i, normF, zq6l, zq8a, zq87, zq8f, zq9x])
    refine ret_rule (vs := [.bool _, .int .i64 0]) r25 rfl rfl fun W hW => hR _ _ ⟨?_, hW.fresh'⟩
    unfold aheadV; rw [if_pos hin]; rfl
 ·(refine Y_go 600 ?_; dsimp only [zq8t, Y_k, zq4u, zq8o, zq6n, Nat.reduceBEq, zq6k, YK, zq5j, zq2f, nth, zq2e, zq6l, zq9i, normF, zq6m, zq86, zq87, zq8a, zq9y, t25n2, T25n2, zq9r, zq9q, zq50, zq8p, zq6q, zq04, zq92, zq9b, zq0i, zq9d, Y_gk, zq6e, YS, zq6a, zq4v, zq6o, zq0b, zq89, zq9s, zq6f, YC, t25n0, T25n0, zq6p, zq9x, YR, zq6c, zq9e, zq0c, zq55, zq0r, zq9h, zq6h, zq8x, zq9p, t25n1, T25n1, zq9j])
  refine ⟨fun _ => bad _ (fun q => ho q.1) rfl, fun h => absurd h (by decide)⟩
theorem pairs52 (n : Int) (w : World) : CallsV Try.prog 52 [.int .i64 n] w fun v w' => ∃ g, v = .func (.func 68) #[] #[.pointer (some ⟨g, 0, none⟩)] ∧ (w.heap.size ≤ g ∧ g < w'.heap.size) ∧ w'.heap[g]? = some (.cells #[.int .i64 n] 3 (0, 0)) ∧ Fresh w w' := by
 refine calls_go (keep := K52) (nt := 4) (svs := [.val (.int .i64 n)]) Try.func52 x52 n52 (by simp) (by simp [IsL, Is]) fun R hR => ?_
 (refine Y_go 600 ?_; dsimp only [X52, numF, Nat.reduceAdd, zq9r, zq9q, Y_k, zq5f, zq8o, zq6n, Nat.reduceBEq, zq6k, zq7u, zq73, zq0a, zq1z, List.length_nil, List.nil_append, YK, zq8t, zq4u, zq8p, zq6y, zq9i, normF, zq6l, zq87, zq8c, zq9y, t52n0, T52n0, zq5k, evL, zq8j, zq9x])
 intro g
 refine ret_rule (vs := [.func (.func 68) #[] #[.pointer (some ⟨g, 0, none⟩)]]) r52 rfl rfl fun W hW => hR _ _ ⟨g, rfl, ?_, ?_, hW.fresh'⟩
 ·have := hW.fresh 0 _ g rfl rfl
  simp only [Env.old, List.not_mem_nil, not_false_eq_true, and_true, Nat.not_lt] at this
  omega
 ·obtain ⟨cc, hc, hL⟩ := hW.ents 0 _ rfl
  simp only [IsL, Is] at hL
  obtain ⟨v, r, rfl, rfl, e⟩ := hL
  have : cc = #[.int .i64 n] := by rw [← Array.toList_inj]; simpa using e
  rw [this] at hc; exact hc
end Go.Proofs.Ytnedgfkgmdoahaa
