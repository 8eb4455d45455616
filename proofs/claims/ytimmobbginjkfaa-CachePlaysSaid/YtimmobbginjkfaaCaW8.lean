/- l1: New; All without its sort. -/
import Derived.Test.YtimmobbginjkfaaCaW4
import Derived.Test.YtimmobbginjkfaaCaCode
set_option linter.unusedSimpArgs false
set_option linter.unusedVariables false
set_option linter.unnecessarySimpa false
namespace Go.Proofs.Ytimmobbginjkfaa
open Go Go.Sx Go.Ca
set_option maxRecDepth 100000
theorem own_row {E : Env} {gc : Nat} {t T : TypeId} {a b d : Value} {sz g n : Nat} {xs : List Value} {W : World} (hn : 1 ≤ n) (h : HeapOk E [.own T 0 sz (some ⟨g, 0, none⟩) n n xs, .cells gc t [.val a, .val b, .own 0 0, .val d]] W) :
  HeapOk E [.cells gc t [.val a, .val b, .slc 1 0 n n, .val d], .row g T xs] W := by
 have ho := h.ent (e := .own T 0 sz (some ⟨g, 0, none⟩) n n xs) (by simp)
 have hc := h.ent (e := .cells gc t [.val a, .val b, .own 0 0, .val d]) (by simp)
 have hrow : W.heap[g]? = some (.cells xs.toArray T (0, 0)) := by
  obtain ⟨hl, ⟨h1, _⟩ | ⟨g', b', cur, e, hg, h1, h2, h3, h4⟩⟩ := ho
  ·omega
  ·injection e with e
   injection e with e1 e2
   subst e1; subst e2
   have hsz : cur.toList.length = n * sz := by simp; omega
   rw [List.drop_zero, List.take_of_length_le (by omega)] at h4
   rw [← h4]
   simpa using hg
 have f1 := h.fr (e := .own T 0 sz (some ⟨g, 0, none⟩) n n xs) (by simp) (g := g) rfl
 have f2 := h.fr (e := .cells gc t [.val a, .val b, .own 0 0, .val d]) (by simp) (g := gc) rfl
 have hap := h.apart
 refine HeapOk.mk' h.keep h.floor (fun e he => ?_) (fun e he g' hg' => ?_) ?_
 ·simp only [List.mem_cons, List.not_mem_nil, or_false] at he
  rcases he with rfl | rfl
  ·obtain ⟨c, h1, h2⟩ := hc
   refine ⟨c, h1, ?_⟩
   simp only [IsL, Is, nth] at h2 ⊢
   obtain ⟨v1, r1, rfl, ⟨v2, r2, rfl, ⟨v3, r3, h3, ⟨v4, r4, rfl, rfl, rfl⟩, rfl⟩, rfl⟩, e⟩ := h2
   obtain ⟨t', ver', sz', A', n', c', xs', e1, _, _, h5⟩ := h3
   injection e1 with e1
   injection e1 with q1 q2 q3 q4 q5 q6 q7
   have := h5 q2.symm
   subst q4; subst q5; subst q6
   exact ⟨_, _, rfl, ⟨_, _, rfl, ⟨_, _, ⟨g, rfl, this⟩, ⟨_, _, rfl, rfl, rfl⟩, rfl⟩, rfl⟩, e⟩
  ·exact hrow
 ·simp only [List.mem_cons, List.not_mem_nil, or_false] at he
  rcases he with rfl | rfl
  ·injection hg' with hg'; subst hg'; exact f2
  ·injection hg' with hg'; subst hg'; exact f1
 ·have h1 := List.pairwise_cons.1 hap
  refine List.pairwise_cons.2 ⟨fun e he => ?_, by simp⟩
  simp only [List.mem_singleton] at he
  subst he
  intro x hx hx2
  exact h1.1 (.cells gc t [.val a, .val b, .own 0 0, .val d]) (by simp) x hx2 hx
def newC (sets ways : Int) : Option Ca := if decide (sets < 1) || decide (sets > 8) || decide (ways < 1) || decide (ways > 4) then none else some ⟨sets.toNat, ways.toNat, 0, fun _ => zE⟩
theorem newC_ok {sets ways : Int} {c : Ca} (h : newC sets ways = some c) : CaOk c := by
 unfold newC at h
 split at h
 ·cases h
 ·rename_i hn
  injection h with h; subst h
  simp only [Bool.or_eq_true, decide_eq_true_eq, not_or] at hn
  exact ⟨by show 1 ≤ sets.toNat; omega, by show sets.toNat ≤ 8; omega, by show 1 ≤ ways.toNat; omega, by show ways.toNat ≤ 4; omega, by show (0 : Int) ≤ 0; omega, by show (0 : Int) ≤ 1000000; omega⟩
theorem new8 (sets ways : Int) (w : World) :
  CallsV Try.prog 8 [.int .i64 sets, .int .i64 ways] w fun v w' => (newC sets ways = none ∧ v = .tuple #[.pointer none, .int .i64 2] ∧ Fresh w w') ∨
   ∃ c gc gs, newC sets ways = some c ∧ v = .tuple #[.pointer (some ⟨gc, 0, none⟩), .int .i64 0] ∧ HeapOk ⟨w, w.heap.size, [], 28, []⟩ (caF gc gs c) w' := by
 refine calls_go (keep := K8) (nt := 28) (svs := [.val (.int .i64 sets), .val (.int .i64 ways)]) Try.func8 x8 n8 (by simp) (by simp [IsL, Is]) fun R hR => ?_
 (refine Y_go 600 ?_; dsimp only [X8, numF, Nat.reduceAdd, zq9r, zq9q, Y_k, zq4u, zq8p, zq6t, YK, zq8t, zq6q, zq9i, normF, zq6n, Nat.reduceBEq, zq6l, zq6k, zq6m, zq86, zq87, zq9y, t8n2, T8n2, zq8o, zq50, zq04, zq92, zq9b, zq0i, zq9e, Y_gk, zq6e, YS, zq6a, zq4v, zq6o, zq0b, zq89, zq9s, zq6f, YC, t8n0, T8n0, zq9x, YR, zq6c, zq9g, zq0c, zq6h, zq8x, zq9p, t8n1, T8n1, zq4w, zq0e, zq67, zq06, zq4t, List.length_nil, List.nil_append, zq5g, List.map, zq6u, zq21, zq7u, zq73, zq0a, dropL, takeL, zq20, splice, setn, zq81, zq7n, zq22, zq25, zq5f, zq7t, List.length_cons, zq8l, zq8m, zq8k, zq1z, List.cons_append, zq8a, zq8c])
 have bad : ∀ s, (decide (sets < 1) || decide (sets > 8) || decide (ways < 1) || decide (ways > 4)) = true → denAll s.H s.F [4, 5] = some [.pointer none, .int .i64 2] → RetG (cxOf Try.prog Try.f8 K8 T8 R) ⟨w, w.heap.size, [], 28, []⟩ s := fun s hb h1 => ret_rule (vs := [.pointer none, .int .i64 2]) r8 rfl h1 fun W hW => hR _ _ (.inl ⟨by unfold newC; rw [if_pos hb], rfl, hW.fresh'⟩)
 refine ⟨fun h1 => bad _ (by rw [h1]; rfl) rfl, fun h1 => ⟨fun h2 => bad _ (by rw [h2]; simp) rfl, fun h2 => ⟨fun h3 => bad _ (by rw [h3]; simp) rfl, fun h3 => ⟨fun h4 => bad _ (by rw [h4]; simp) rfl, fun h4 => ?_⟩⟩⟩⟩
 have hno : (decide (sets < 1) || decide (sets > 8) || decide (ways < 1) || decide (ways > 4)) = false := by rw [h1, h2, h3, h4]; rfl
 have h1 := of_decide_eq_false h1
 have h2 := of_decide_eq_false h2
 have h3 := of_decide_eq_false h3
 have h4 := of_decide_eq_false h4
 obtain ⟨s, rfl⟩ : ∃ s : Nat, (s : Int) = sets := ⟨sets.toNat, by omega⟩
 obtain ⟨k, rfl⟩ : ∃ k : Nat, (k : Int) = ways := ⟨ways.toNat, by omega⟩
 have hn : newC (s : Int) (k : Int) = some ⟨s, k, 0, fun _ => zE⟩ := by
  unfold newC
  rw [if_neg (by rw [hno]; simp)]
  simp
 have hle : s * k ≤ 8 * 4 := Nat.mul_le_mul (by omega) (by omega)
 have hpos : 1 ≤ s * k := Nat.mul_pos (by omega) (by omega)
 refine ⟨((s * k : Nat) : Int), mulOk (by simp) (by omega) (by omega), ⟨by omega, by omega, by omega, by omega⟩, fun gs gc => ?_⟩
 rw [Int.toNat_natCast, show repN (s * k) [.int .i64 0, .int .i64 0, .bool false, .bool false, .int .u64 0, .int .u64 0, .int .u64 0, .int .u64 0, .int .u64 0, .int .u64 0, .int .u64 0, .int .u64 0, .int .u64 0, .int .u64 0, .int .u64 0, .int .u64 0, .int .u64 0, .int .u64 0, .int .u64 0, .int .u64 0, .int .i64 0] = slV (s * k) (fun _ => zE) from slV_zero (s * k)]
 refine ret_rule (vs := [.pointer (some ⟨gc, 0, none⟩), .int .i64 0]) r8 rfl rfl fun W hW => hR _ _ (.inr ⟨_, gc, gs, hn, rfl, ?_⟩)
 exact own_row hpos hW
end Go.Proofs.Ytimmobbginjkfaa
