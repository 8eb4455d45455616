/- lint: bits, sets, reads, find. -/
import Derived.Test.YtlbiogokpadaoaaGreatDoorBgIsa1
import Derived.Test.YtlbiogokpadaoaaGreatDoorLpPlain
import Derived.Test.YtlbiogokpadaoaaGreatDoorBgCodeLint
set_option linter.unusedSimpArgs false
set_option linter.unusedVariables false
set_option linter.unnecessarySimpa false
namespace Go.Proofs.YtlbiogokpadaoaaGreatDoor
open Go Go.Sx Go.Isa Go.Lint
set_option maxRecDepth 100000
theorem intsV_get' {l : List Int} {i : Nat} (h : i < l.length) : (intsV l)[i]? = some (.int .i64 l[i]) := by simp [intsV, h]
theorem bits74 (A : Option Addr) (c : Nat) (l : List Int) (w : World) (hA : RowAt w A (intsV l)) (hl : l.length ≤ 100) (hr : ∀ r ∈ l, 0 ≤ r ∧ r < 8) :
  CallsV Tryz.prog 74 [.slice A l.length c] w fun v w' => v = u8V (bitsL l) ∧ Fresh w w' := by
 refine calls_go (keep := K74) (nt := 17) (svs := [.val (.slice A l.length c)]) Tryz.func74 x74 n74 (by simp) (by simp [IsL, Is]) fun R hR => ?_
 (refine Y_go 600 ?_; dsimp only [X74, numF, Nat.reduceAdd, zq9q, zq9p, Y_k, zq4t, zq8o, zq6p, YK, zq8s, zq9h, normF, zq6m, Nat.reduceBEq, zq6k, zq6j, zq6l, zq85, zq86, zq9x, t74n5, T74n5, zq8n, zq54, zq0r, zq9s, zq9u])
 refine loop_go (α := Nat) (fun i => i ≤ l.length) (fun _ => ⟨w, w.heap.size, [], 17, []⟩)
  (fun i => { F := [(0, .val (.slice A l.length c)), (2, .val (.int .u8 (bitsL (l.take i)).toNat)), (5, .val (.slice A l.length c)), (6, .val (.int .i64 l.length)), (7, .val (.int .i64 i))], H := [] }) (fun i => l.length - i) (fun _ => rfl) ?start ?round
 case start =>
  intro a W rep
  refine ⟨0, Nat.zero_le _, rep.le ?_ ?_⟩ <;> (simp only [setn, List.nil_append, List.cons_append, leF, leH_nil, leH_cons, leF_nil, lk, scp, scpL, scpO, resF, resH, resO, resV, resVL, nth, Nat.reduceBEq, Nat.reduceLT, decide_true, decide_false, List.length, List.length_cons, List.length_nil, Nat.reduceAdd, Bool.and_self, Bool.and_true, and_true, true_and, numF] <;> try simp)
  rfl
 case round =>
  intro i hi I hI
  have hi : i ≤ l.length := hi
  (refine Y_go 600 ?_; dsimp only [zq9x, t74n3, T74n3, zq9q, zq9p, Y_k, zq4z, zq8n, zq6m, Nat.reduceBEq, zq6k, zq6j, zq04, zq91, zq9a, zq0i, zq9d, YK, zq8s, zq9h, normF, zq6l, zq86, zq85, t74n2, T74n2, zq9r, zq6g, zq8w, YC, zq9o, t74n1, T74n1, zq9s, zq57, zq06, zq0w, zq5b, zq1p, zq1c, List.nil_append, zq1b, zq18, zq4t, zq88, t74n0, T74n0, zq4y, zq8o, zq6p, zq05, zq92, zq0h, zq4x, zq0g, zqa0, zq4v, zq0e, zqa1, zq9t, popTo, zq6h, YP, t74n4, T74n4, zq89, zq9w])
  refine ⟨fun h => ?_, fun h => ?_⟩
  ·have hlt : i < l.length := by have := of_decide_eq_true h; omega
   have hri := hr l[i] (List.getElem_mem hlt)
   refine ⟨⟨by omega, by omega, hA.isSome (j := i) (by simp [intsV]; omega)⟩, l[i], hA.cell (by rw [show (i : Int).toNat * 1 = i by omega]; exact intsV_get' hlt), _, shl8 hri.1 hri.2, _, or8 _ _, _, .add64 (by omega) (by omega), lend_rule fun a W rep => hI (i + 1) (by show i + 1 ≤ _; omega) (by show l.length - (i + 1) < l.length - i; omega) a W (rep.le ?_ ?_)⟩
   ·(simp only [setn, List.nil_append, List.cons_append, leF, leH_nil, leH_cons, leF_nil, lk, scp, scpL, scpO, resF, resH, resO, resV, resVL, nth, Nat.reduceBEq, Nat.reduceLT, decide_true, decide_false, List.length, List.length_cons, List.length_nil, Nat.reduceAdd, Bool.and_self, Bool.and_true, and_true, true_and, numF] <;> try simp)
    rw [List.take_add_one, List.getElem?_eq_getElem hlt]
    simp only [bitsL, Option.toList_some, List.foldl_append, List.foldl_cons, List.foldl_nil, BitVec.toNat_or]
   ·(simp only [setn, List.nil_append, List.cons_append, leF, leH_nil, leH_cons, leF_nil, lk, scp, scpL, scpO, resF, resH, resO, resV, resVL, nth, Nat.reduceBEq, Nat.reduceLT, decide_true, decide_false, List.length, List.length_cons, List.length_nil, Nat.reduceAdd, Bool.and_self, Bool.and_true, and_true, true_and, numF] <;> try simp)
  ·have hil : i = l.length := by have := of_decide_eq_false h; omega
   subst hil
   rw [List.take_length]
   exact ret_rule (vs := [_]) r74 rfl rfl fun W hW => hR _ _ ⟨rfl, hW.fresh'⟩
theorem sets72 (x : In) (hx : legalB x = true) (w : World) : CallsV Tryz.prog 72 [In.val x] w fun v w' => v = u8V (setsB x) ∧ Fresh w w' := by
 obtain ⟨ha, _, _⟩ := legal_regs hx
 refine calls_go (keep := K72) (nt := 15) (svs := [.agg (In.sv x)]) Tryz.func72 x72 n72 (by simp) (by simp only [IsL]; exact ⟨_, _, In.is _ x, rfl, rfl⟩) fun R hR => ?_
 (refine Y_go 600 ?_; dsimp only [X72, In.sv, numF, Nat.reduceAdd, zq9q, zq9p, Y_k, zq5e, zq8n, zq6m, Nat.reduceBEq, zq6j, zq7s, List.length_cons, List.length_nil, zq8k, zq72, zq8l, zq8j, zq0a, zq1z, List.nil_append, YK, zq8s, zq4t, zq8o, zq6p, zq9h, normF, zq6k, zq6l, zq85, zq86, zq8b, zq87, zq9x, t72n2, T72n2, zq59, zq14, Nat.add_zero, zq5b, zq1o, nth, zq1k, dropL, takeL, zq19, zq18, zq4z, zq04, zq91, zq9a, zq0i, zq9g, Y_gk, zq6c, YR, zq68, zq9e, zq4u, zq6o, zq0b, zq9r, zq6g, zq8w, YC, t72n0, T72n0, zq5g, List.map, repL, List.cons_append, zq23, Nat.reduceMul, zq7t, zq20, splice, setn, zq24, zq26, zq9i, zq9o, t72n1, T72n1, zq89, zq9w, YS, zq6a, zq0c, zq6f])
 intro g
 have no : ¬ (2 ≤ x.op ∧ x.op ≤ 11) → ∀ s, denAll s.H s.F [2] = some [.int .u8 0] → RetG (cxOf Tryz.prog Tryz.f72 K72 T72 R) ⟨w, w.heap.size, [], 15, []⟩ s := fun h s hs =>
  ret_rule (vs := [.int .u8 0]) r72 rfl hs fun W hW => hR _ _ ⟨by simp only [setsB, if_neg h]; rfl, hW.fresh'⟩
 refine ⟨fun h1 => ⟨fun h2 g2 => ?_, fun h2 => no (by have := of_decide_eq_false h2; omega) _ rfl⟩, fun h1 => no (by have := of_decide_eq_false h1; omega) _ rfl⟩
 have h1 : x.op ≥ 2 := of_decide_eq_true h1
 have h2 := of_decide_eq_true h2
 refine call_val (vs := [.slice (some ⟨g2, 0, none⟩) 1 1]) rfl (fun W hW => bits74 _ 1 [x.a] W (hW.cellsAt (i := 1) rfl rfl) (by simp) (by simpa using ha (by omega))) fun v hv => ⟨.val (.int .u8 (bitsL [x.a]).toNat), by rw [hv]; simp [Is, u8V], ?_⟩
 (refine Y_go 600 ?_; dsimp only [zq8s, Y_k, zq4t, zq8n, zq6m, Nat.reduceBEq, zq6j, YK, zq9h, normF, zq6k, zq88, zq86, zq8b, zq87, zq9w])
 refine ret_rule (vs := [_]) r72 rfl rfl fun W hW => hR _ _ ⟨?_, hW.fresh'⟩
 simp only [setsB, if_pos (show 2 ≤ x.op ∧ x.op ≤ 11 from ⟨h1, h2⟩), tupOf, u8V, bitsL, List.foldl_cons, List.foldl_nil]
 simp
theorem reads40 (x : In) (hx : legalB x = true) (w : World) : CallsV Tryz.prog 40 [In.val x] w fun v w' => v = u8V (readsB x) ∧ Fresh w w' := by
 obtain ⟨ha, hb, hc⟩ := legal_regs hx
 refine calls_go (keep := K40) (nt := 51) (svs := [.agg (In.sv x)]) Tryz.func40 x40 n40 (by simp) (by simp only [IsL]; exact ⟨_, _, In.is _ x, rfl, rfl⟩) fun R hR => ?_
 (refine Y_go 600 ?_; dsimp only [X40, In.sv, numF, Nat.reduceAdd, zq9q, zq9p, Y_k, zq5e, zq8n, zq6m, Nat.reduceBEq, zq6j, zq7s, List.length_cons, List.length_nil, zq8k, zq72, zq8l, zq8j, zq0a, zq1z, List.nil_append, YK, zq8s, zq4t, zq8o, zq6p, zq9h, normF, zq6k, zq6l, zq85, zq86, zq8b, zq87, zq9x, t40n6, T40n6, zq9s, zq59, zq14, Nat.add_zero, zq5b, zq1o, nth, zq1k, dropL, takeL, zq19, zq18, zq4z, zq04, zq91, zq9a, zq0i, zq9b, Y_gk, zq6d, YS, zq69, zq4u, zq6n, zq0b, zq88, zq9r, zq6e, YC, t40n0, T40n0, zq5g, List.map, repL, List.cons_append, zq23, Nat.reduceMul, zq7t, zq20, splice, setn, zq24, zq26, zq9i, YR, zq6b, zq0c, zq6g, zq8w, t40n4, T40n4, zq9g, zq6c, zq68, zq9e, zq6o, zq89, t40n1, T40n1, t40n3, T40n3, zq02, t40n2, T40n2, zq9o, zqa0, t40n5, T40n5, zq9w, zq6a, zq6f])
 have done : ∀ s (b : Set8), denAll s.H s.F [2] = some [.int .u8 b.toNat] → b = readsB x → RetG (cxOf Tryz.prog Tryz.f40 K40 T40 R) ⟨w, w.heap.size, [], 51, []⟩ s := fun s b hs hb =>
  ret_rule (vs := [.int .u8 b.toNat]) r40 rfl hs fun W hW => hR _ _ ⟨by rw [hb]; rfl, hW.fresh'⟩
 refine fun g => ⟨fun h1 g2 => ?_, fun h1 => ⟨fun h2 g2 => ?_, fun h2 => ⟨fun h3 => ⟨fun h4 g2 => ?_, fun h4 => ⟨fun h5 g2 => ?_, fun h5 => ⟨fun h6 => ⟨fun h7 g2 => ?_, fun h7 => ?_⟩, fun h6 => ?_⟩⟩⟩, fun h3 => ⟨fun h5 g2 => ?_, fun h5 => ⟨fun h6 => ⟨fun h7 g2 => ?_, fun h7 => ?_⟩, fun h6 => ?_⟩⟩⟩⟩⟩
 all_goals simp only [beq_iff_eq, beq_eq_false_iff_ne, decide_eq_true_eq, decide_eq_false_iff_not, ge_iff_le, ne_eq] at *
 ·have qb : 0 ≤ x.b ∧ x.b < 8 := hb (by omega)
  refine call_val (vs := [.slice (some ⟨g2, 0, none⟩) 1 1]) rfl (fun W hW => bits74 _ 1 [x.b] W (hW.cellsAt (i := 1) rfl rfl) (by simp) (by simp only [List.mem_cons, List.not_mem_nil, or_false]; rintro r rfl <;> assumption)) fun v hv => ⟨.val (.int .u8 (bitsL [x.b]).toNat), by rw [hv]; simp [Is, u8V], ?_⟩
  (refine Y_go 600 ?_; dsimp only [zq8s, Y_k, zq4t, zq8n, zq6m, Nat.reduceBEq, zq6j, YK, zq9h, normF, zq6k, zq6l, zq85, zq88, zq86, zq8b, zq87, zq9w])
  refine done _ _ rfl ?_
  simp only [readsB, bitsL, List.foldl_cons, List.foldl_nil, BitVec.zero_or]
  repeat' (split <;> first | rfl | (exfalso; omega) | skip)
 ·have qb : 0 ≤ x.b ∧ x.b < 8 := hb (by omega)
  refine call_val (vs := [.slice (some ⟨g2, 0, none⟩) 1 1]) rfl (fun W hW => bits74 _ 1 [x.b] W (hW.cellsAt (i := 1) rfl rfl) (by simp) (by simp only [List.mem_cons, List.not_mem_nil, or_false]; rintro r rfl <;> assumption)) fun v hv => ⟨.val (.int .u8 (bitsL [x.b]).toNat), by rw [hv]; simp [Is, u8V], ?_⟩
  (refine Y_go 600 ?_; dsimp only [zq8s, Y_k, zq4t, zq8n, zq6m, Nat.reduceBEq, zq6j, YK, zq9h, normF, zq6k, zq6l, zq85, zq88, zq86, zq8b, zq87, zq9w])
  refine done _ _ rfl ?_
  simp only [readsB, bitsL, List.foldl_cons, List.foldl_nil, BitVec.zero_or]
  repeat' (split <;> first | rfl | (exfalso; omega) | skip)
 ·have qb : 0 ≤ x.b ∧ x.b < 8 := hb (by omega)
  have qc : 0 ≤ x.c ∧ x.c < 8 := hc (by omega)
  refine call_val (vs := [.slice (some ⟨g2, 0, none⟩) 2 2]) rfl (fun W hW => bits74 _ 2 [x.b, x.c] W (hW.cellsAt (i := 1) rfl rfl) (by simp) (by simp only [List.mem_cons, List.not_mem_nil, or_false]; rintro r (rfl | rfl) <;> assumption)) fun v hv => ⟨.val (.int .u8 (bitsL [x.b, x.c]).toNat), by rw [hv]; simp [Is, u8V], ?_⟩
  (refine Y_go 600 ?_; dsimp only [zq8s, Y_k, zq4t, zq8n, zq6m, Nat.reduceBEq, zq6j, YK, zq9h, normF, zq6k, zq6l, zq85, zq88, zq89, zq86, zq8b, zq87, zq9w])
  refine done _ _ rfl ?_
  simp only [readsB, bitsL, List.foldl_cons, List.foldl_nil, BitVec.zero_or]
  repeat' (split <;> first | rfl | (exfalso; omega) | skip)
 ·have qa : 0 ≤ x.a ∧ x.a < 8 := ha (by omega)
  have qb : 0 ≤ x.b ∧ x.b < 8 := hb (by omega)
  refine call_val (vs := [.slice (some ⟨g2, 0, none⟩) 2 2]) rfl (fun W hW => bits74 _ 2 [x.a, x.b] W (hW.cellsAt (i := 1) rfl rfl) (by simp) (by simp only [List.mem_cons, List.not_mem_nil, or_false]; rintro r (rfl | rfl) <;> assumption)) fun v hv => ⟨.val (.int .u8 (bitsL [x.a, x.b]).toNat), by rw [hv]; simp [Is, u8V], ?_⟩
  (refine Y_go 600 ?_; dsimp only [zq8s, Y_k, zq4t, zq8n, zq6m, Nat.reduceBEq, zq6j, YK, zq9h, normF, zq6k, zq88, zq89, zq86, zq8b, zq87, zq9w])
  refine done _ _ rfl ?_
  simp only [readsB, bitsL, List.foldl_cons, List.foldl_nil, BitVec.zero_or]
  repeat' (split <;> first | rfl | (exfalso; omega) | skip)
 ·have qa : 0 ≤ x.a ∧ x.a < 8 := ha (by omega)
  have qb : 0 ≤ x.b ∧ x.b < 8 := hb (by omega)
  refine call_val (vs := [.slice (some ⟨g2, 0, none⟩) 2 2]) rfl (fun W hW => bits74 _ 2 [x.a, x.b] W (hW.cellsAt (i := 1) rfl rfl) (by simp) (by simp only [List.mem_cons, List.not_mem_nil, or_false]; rintro r (rfl | rfl) <;> assumption)) fun v hv => ⟨.val (.int .u8 (bitsL [x.a, x.b]).toNat), by rw [hv]; simp [Is, u8V], ?_⟩
  (refine Y_go 600 ?_; dsimp only [zq8s, Y_k, zq4t, zq8n, zq6m, Nat.reduceBEq, zq6j, YK, zq9h, normF, zq6k, zq88, zq89, zq86, zq8b, zq87, zq9w])
  refine done _ _ rfl ?_
  simp only [readsB, bitsL, List.foldl_cons, List.foldl_nil, BitVec.zero_or]
  repeat' (split <;> first | rfl | (exfalso; omega) | skip)
 ·refine done _ 0#8 rfl ?_
  simp only [readsB]
  repeat' (split <;> first | rfl | (exfalso; omega) | skip)
 ·refine done _ 0#8 rfl ?_
  simp only [readsB]
  repeat' (split <;> first | rfl | (exfalso; omega) | skip)
 ·have qa : 0 ≤ x.a ∧ x.a < 8 := ha (by omega)
  have qb : 0 ≤ x.b ∧ x.b < 8 := hb (by omega)
  refine call_val (vs := [.slice (some ⟨g2, 0, none⟩) 2 2]) rfl (fun W hW => bits74 _ 2 [x.a, x.b] W (hW.cellsAt (i := 1) rfl rfl) (by simp) (by simp only [List.mem_cons, List.not_mem_nil, or_false]; rintro r (rfl | rfl) <;> assumption)) fun v hv => ⟨.val (.int .u8 (bitsL [x.a, x.b]).toNat), by rw [hv]; simp [Is, u8V], ?_⟩
  (refine Y_go 600 ?_; dsimp only [zq8s, Y_k, zq4t, zq8n, zq6m, Nat.reduceBEq, zq6j, YK, zq9h, normF, zq6k, zq88, zq89, zq86, zq8b, zq87, zq9w])
  refine done _ _ rfl ?_
  simp only [readsB, bitsL, List.foldl_cons, List.foldl_nil, BitVec.zero_or]
  repeat' (split <;> first | rfl | (exfalso; omega) | skip)
 ·have qa : 0 ≤ x.a ∧ x.a < 8 := ha (by omega)
  have qb : 0 ≤ x.b ∧ x.b < 8 := hb (by omega)
  refine call_val (vs := [.slice (some ⟨g2, 0, none⟩) 2 2]) rfl (fun W hW => bits74 _ 2 [x.a, x.b] W (hW.cellsAt (i := 1) rfl rfl) (by simp) (by simp only [List.mem_cons, List.not_mem_nil, or_false]; rintro r (rfl | rfl) <;> assumption)) fun v hv => ⟨.val (.int .u8 (bitsL [x.a, x.b]).toNat), by rw [hv]; simp [Is, u8V], ?_⟩
  (refine Y_go 600 ?_; dsimp only [zq8s, Y_k, zq4t, zq8n, zq6m, Nat.reduceBEq, zq6j, YK, zq9h, normF, zq6k, zq88, zq89, zq86, zq8b, zq87, zq9w])
  refine done _ _ rfl ?_
  simp only [readsB, bitsL, List.foldl_cons, List.foldl_nil, BitVec.zero_or]
  repeat' (split <;> first | rfl | (exfalso; omega) | skip)
 ·refine done _ 0#8 rfl ?_
  simp only [readsB]
  repeat' (split <;> first | rfl | (exfalso; omega) | skip)
 ·refine done _ 0#8 rfl ?_
  simp only [readsB]
  repeat' (split <;> first | rfl | (exfalso; omega) | skip)
abbrev lkE (gm gl : Nat) (B : Option Addr) (bn bc : Nat) (m : Met) (k : Nat) (A : Option Addr) (n c : Nat) (xs : List Value) : List SO := [.map gm (metV m), .cells gl 76 [.val (.slice B bn bc), .mp 0, .own 2 k], .own 46 k 2 A n c xs]
theorem lkE_ver {E : Env} {gm gl : Nat} {B : Option Addr} {bn bc : Nat} {m : Met} {k : Nat} (k' : Nat) {A : Option Addr} {n c : Nat} {xs : List Value} {W : World} (h : HeapOk E (lkE gm gl B bn bc m k A n c xs) W) : HeapOk E (lkE gm gl B bn bc m k' A n c xs) W where
 keep := h.keep
 floor := h.floor
 ents i e hi := by
  match i, hi with
  | 0, hi => injection hi with hi; subst hi; exact h.ents 0 _ rfl
  | 1, hi =>
   injection hi with hi; subst hi
   obtain ⟨cur, hc, hL⟩ := h.ents 1 _ rfl
   refine ⟨cur, hc, ?_⟩
   simp only [IsL, Is] at hL ⊢
   obtain ⟨v0, r0, h0, ⟨v1, r1, h1, ⟨v2, r2, h2, h3, e2⟩, e1⟩, e0⟩ := hL
   refine ⟨v0, r0, h0, ⟨v1, r1, ?_, ⟨v2, r2, ?_, h3, e2⟩, e1⟩, e0⟩
   ·obtain ⟨g, hg, e⟩ := h1; exact ⟨g, hg, e⟩
   ·obtain ⟨t, ver', sz, A1, n1, c1, xs1, hn, hle, hsh, hv⟩ := h2
    injection hn with hn; injection hn with f1 f2 f3 f4 f5 f6 f7
    subst f2
    exact ⟨_, _, _, _, _, _, _, rfl, Nat.le_refl _, hsh, fun _ => by rw [hv rfl, f4, f5, f6]⟩
  | 2, hi => injection hi with hi; subst hi; exact h.ents 2 (.own 46 k 2 A n c xs) rfl
  | i + 3, hi => simp [nth] at hi
 fresh i e g hi hg := by
  match i, hi with
  | 0, hi => injection hi with hi; subst hi; exact h.fresh 0 _ g rfl hg
  | 1, hi => injection hi with hi; subst hi; exact h.fresh 1 _ g rfl hg
  | 2, hi => injection hi with hi; subst hi; exact h.fresh 2 (.own 46 k 2 A n c xs) g rfl hg
  | i + 3, hi => simp [nth] at hi
 dist i j e e' g hij hi hj hg := by
  have key : ∀ i e, nth (lkE gm gl B bn bc m k' A n c xs) i = some e → ∃ e0, nth (lkE gm gl B bn bc m k A n c xs) i = some e0 ∧ e0.fp = e.fp := by
   intro i e hi
   match i, hi with
   | 0, hi => injection hi with hi; subst hi; exact ⟨_, rfl, rfl⟩
   | 1, hi => injection hi with hi; subst hi; exact ⟨_, rfl, rfl⟩
   | 2, hi => injection hi with hi; subst hi; exact ⟨_, rfl, rfl⟩
   | i + 3, hi => simp [nth] at hi
  obtain ⟨e0, h0, f0⟩ := key i e hi
  obtain ⟨e1, h1, f1⟩ := key j e' hj
  rw [← f1]
  exact h.dist i j e0 e1 g hij h0 h1 (by rw [f0]; exact hg)
theorem find41_0 {b : World} {N : Nat} {st : List Nat} {nt0 : Nat} {mk0 : List Nat} (gm gl : Nat) (B : Option Addr) (bn bc : Nat) (m : Met) (A : Option Addr) (n c : Nat) (xs : List Value) (hn : n ≤ 1000000000) (cd p : Int) (W : World) (hW : HeapOk ⟨b, N, st, nt0, mk0⟩ (lkE gm gl B bn bc m 0 A n c xs) W) :
  CallsV Tryz.prog 41 [.pointer (some ⟨gl, 0, none⟩), .int .i64 cd, .int .i64 p] W fun v W' => v = .tuple #[] ∧ ∃ A' c', HeapOk ⟨b, N, st, nt0, mk0⟩ (lkE gm gl B bn bc m 1 A' (n + 1) c' (xs ++ [.int .i64 cd, .int .i64 p])) W' := by
 refine calls_lent (keep := K41) (nt := 18) (svs := [.ptr 1 0, .val (.int .i64 cd), .val (.int .i64 p)]) Tryz.func41 x41 n41 (by simp) hW (by simp [IsL, Is, blk, nth]) fun R hR => ?_
 (refine Y_go 600 ?_; dsimp only [X41, numF, Nat.reduceAdd, zq9p, Y_k, zq4t, zq8n, zq6m, Nat.reduceBEq, zq6j, YK, zq8s, zq6k, zq5h, zq29, zq59, zq14, zq5b, zq1o, nth, zq1k, List.length_cons, List.length_nil, dropL, takeL, zq19, zq18, zq5f, List.map, zq6p, zq21, zq7t, zq72, zq0a, zq20, splice, setn, zq22, zq25, zq5g, repL, List.cons_append, List.nil_append, zq23, Nat.reduceMul, zq7s, zq8k, zq8l, zq8j, zq24, zq26, zq5k, zq2v, zq09, zq08, zq2r, zq9a, zq2q, zq2n, zq2j, zq2k, denL, den, zq2l, zq2h, zq5c, zq80, zq7m, zq1x, zq1t, zq1r, zq8r, zq9h, normF, zq86, zq8b, zqa2])
 refine fun g => ⟨⟨by simp only [maxLen]; omega, by omega⟩, fun A' c' => ?_⟩
 refine end_rule (vs := []) r41 rfl rfl fun W' hW' => hR _ _ ⟨rfl, A', c', ?_⟩
 have h2 : HeapOk ⟨b, N, st, nt0, mk0⟩ (lkE gm gl B bn bc m 1 A' (n + 1) c' (xs ++ [.int .i64 cd, .int .i64 p]) ++ [.cells g 46 [.val (.int .i64 cd), .val (.int .i64 p)]]) W' := HeapOk.env (E := ⟨b, N, st, 18, []⟩) (E' := ⟨b, N, st, nt0, mk0⟩) rfl rfl rfl hW'
 exact h2.pre (fun e he => List.all_eq_true.1 (show List.all (lkE gm gl B bn bc m 1 A' (n + 1) c' (xs ++ [.int .i64 cd, .int .i64 p])) (scpO 3) = true from rfl) e he)
theorem lkE_ext {gm gl : Nat} {B : Option Addr} {bn bc : Nat} {m m' : Met} {k k' : Nat} {A A' : Option Addr} {n n' c c' : Nat} {xs xs' : List Value} (h : k < k') : HExt (lkE gm gl B bn bc m k A n c xs) (lkE gm gl B bn bc m' k' A' n' c' xs') :=
 extB_spec ⟨.inl ⟨_, rfl, rfl⟩, .inl ⟨_, rfl, rfl⟩, .inr (.inr h), trivial⟩
theorem find_rule {C : Cx} (hC : C.P = Tryz.prog) {E : Env} {gm gl : Nat} {B : Option Addr} {bn bc : Nat} {m : Met} {k : Nat} {A : Option Addr} {n c : Nat} {xs : List Value} {cd p : Int} {d : Option Nat} {args : List Operand} {l : List XS} {kk : List KI} {F : List (Nat × SV)} {r : List SO} (hn : n ≤ 1000000000)
  (hargs : denL (lkE gm gl B bn bc m k A n c xs ++ r) (evL F args) = some [.pointer (some ⟨gl, 0, none⟩), .int .i64 cd, .int .i64 p])
  (next : ∀ A' c', G C E (.ops l :: kk) { F := putF F d (.tup []), H := lkE gm gl B bn bc m (k + 1) A' (n + 1) c' (xs ++ [.int .i64 cd, .int .i64 p]) ++ r }) :
  G C E (.ops ({ dst := d, guard := none, i := .call 41 args } :: l) :: kk) { F := F, H := lkE gm gl B bn bc m k A n c xs ++ r } := by
 refine call_lent (lkE gm gl B bn bc m k A n c xs) r (fun v H1' => v = .tuple #[] ∧ ∃ A' c', H1' = lkE gm gl B bn bc m (k + 1) A' (n + 1) c' (xs ++ [.int .i64 cd, .int .i64 p])) rfl hargs (fun W _ hW => ?_) ?_
 ·rw [hC]
  refine (find41_0 gm gl B bn bc m A n c xs hn cd p W (lkE_ver 0 hW)).mono fun v W' ⟨h1, A', c', h2⟩ => ⟨_, ⟨h1, A', c', rfl⟩, lkE_ext (by omega), rfl, lkE_ver (k + 1) h2⟩
 ·rintro v H1' ⟨rfl, A', c', rfl⟩
  exact ⟨.tup [], by simp [Is, IsL], next A' c'⟩
end Go.Proofs.YtlbiogokpadaoaaGreatDoor
