/- The walk: an instruction's line (isa.Text): its numbers by their letters; whether it is plain. -/
import Derived.Test.YtlbiogokpadaoaaGreatDoorAsCodeIsa
import Derived.Test.YtlbiogokpadaoaaGreatDoorBgIsa1
import Derived.Test.YtlbiogokpadaoaaGreatDoorIsaSpec
set_option linter.unusedSimpArgs false
set_option linter.unusedVariables false
set_option linter.unnecessarySimpa false
namespace Go.Proofs.YtlbiogokpadaoaaGreatDoor
open Go Go.Sx Go.Isa
set_option maxRecDepth 100000
theorem field37 (g : Nat) (c : Int) (w : World) : CallsV Tryz.prog 176 [.pointer (some ⟨g, 0, none⟩), .int .u8 c] w fun v w' => v = .pointer (some ⟨g, fo c, none⟩) ∧ Fresh w w' := by
 refine calls_go (keep := K176) (nt := 29) (svs := [.adr (some ⟨g, 0, none⟩) 0, .val (.int .u8 c)]) Tryz.func176 x176 n176 (by simp) (by simp [IsL, Is, Addr.add]) fun R hR => ?_
 (refine Y_go 600 ?_; dsimp only [X176, numF, Nat.reduceAdd, zq9r, zq9q, Y_k, zq4u, zq8p, zq6t, YK, zq8t, zq9i, normF, zq6n, Nat.reduceBEq, zq6l, zq6k, zq6m, zq86, zq87, zq8d, zq9y, t176n9, T176n9, zq8o, t176n7, T176n7, zq9t, zq50, zq6q, zq04, zq93, zq9b, zq0i, zq9c, zq9s, zq6h, zq8x, YC, t176n0, T176n0, zq5i, zq2b, zq5a, zq16, zq89, zq9x, t176n6, T176n6, zq8a, t176n1, T176n1, t176n5, T176n5, t176n2, T176n2, t176n4, T176n4, t176n3, T176n3, zq9p, zqa1, t176n8, T176n8, Nat.add_zero])
 have fin : ∀ F H k, fo c = k → denAll H F [4] = some [.pointer (some ((⟨g, 0, none⟩ : Addr).add k))] → RetG (cxOf Tryz.prog Tryz.f176 K176 T176 R) ⟨w, w.heap.size, [], 29, []⟩ { F := F, H := H } := fun F H k hk hd =>
  ret_rule r176 rfl hd fun W hW => hR _ _ ⟨by rw [hk]; show Value.pointer (some ((⟨g, 0, none⟩ : Addr).add k)) = _; congr 2; unfold Addr.add; split <;> simp_all, hW.fresh'⟩
 refine ⟨fun h1 => ⟨rfl, rfl, fin _ _ 1 (by have := eq_of_beq h1; simp [fo, this]) rfl⟩, fun h1 => ⟨fun h2 => ⟨rfl, rfl, fin _ _ 2 (by have := eq_of_beq h2; simp [fo, this]) rfl⟩, fun h2 => ⟨fun h3 => ⟨rfl, rfl, fin _ _ 3 (by have := eq_of_beq h3; simp [fo, this]) rfl⟩, fun h3 => ⟨fun h4 => ⟨rfl, rfl, fin _ _ 4 (by have := eq_of_beq h4; simp [fo, this]) rfl⟩, fun h4 => ⟨rfl, rfl, fin _ _ 0 (by simp at h1 h2 h3 h4; simp [fo, h1, h2, h3, h4]) rfl⟩⟩⟩⟩⟩
theorem plain40 (x : In) (w : World) (hG : ShAt w) : CallsV Tryz.prog 192 [In.val x] w fun v w' => v = .bool (plainB x) ∧ Fresh w w' := by
 refine calls_go (keep := K192) (nt := 31) (svs := [.agg (In.sv x)]) Tryz.func192 x192 n192 (by simp) (by simp only [IsL]; exact ⟨_, _, In.is _ x, rfl, rfl⟩) fun R hR => ?_
 (refine Y_go 600 ?_; dsimp only [X192, In.sv, numF, Nat.reduceAdd, zq9r, zq9q, Y_k, zq5f, zq8o, zq6n, Nat.reduceBEq, zq6k, zq7t, List.length_cons, List.length_nil, zq8l, zq73, zq8m, zq8k, zq0a, zq1z, List.nil_append, YK, zq8t, zq4u, zq8p, zq6p, zq9i, normF, zq6l, zq6m, zq86, zq8a, zq8c, zq88, zq9y, t192n8, T192n8, zq5c, zq1o, nth, zq1k, dropL, takeL, zq19, zq17, zq9j])
 intro g
 refine call_val (vs := [In.val x]) rfl (fun W hW => legal21 x W (hG.keep hW.fresh')) fun v hv => ⟨.val (.bool (legalB x)), by rw [hv]; simp [Is], ?_⟩
 (refine Y_go 600 ?_; dsimp only [zq8t, Y_k, zq53, zq8o, zq6n, Nat.reduceBEq, zq6k, zq0o, YK, zq9i, normF, zq6l, zq6m, zq86, zq87, zq8a, zq8c, zq88, zq9s, zq6h, zq8x, YC, zq9y, t192n0, T192n0, zq9r, zq9q, zq4u, zq8p, zq6p, zq89, zq9x, zq9p, t192n7, T192n7, zq5h, List.map, zq6q, repL, List.cons_append, List.nil_append, zq23, Nat.reduceMul, zq7u, zq73, zq0a, dropL, takeL, zq20, splice, setn, zq24, zq26, List.length_cons, List.length_nil, Nat.reduceAdd, zq5y, zq4b, nth, zq4a, denL, den, zq49, zq55, zq0s, zq8e, zq9t, zq9v])
 refine ⟨fun h => ret_rule (vs := [_]) r192 rfl rfl fun W hW => hR _ _ ⟨?_, hW.fresh'⟩, fun h g1 => ?_⟩
 ·have h : legalB x = false := by simpa using h
  rw [plainB, h]; rfl
 have hl : legalB x = true := by simpa using h
 have hop : isOp x.op = true := by
  have := hl
  simp only [legalB, Bool.and_eq_true] at this
  exact this.1.1.1
 have hr : 1 ≤ x.op ∧ x.op ≤ 18 := by rw [isOp, Bool.and_eq_true] at hop; exact ⟨of_decide_eq_true hop.1, of_decide_eq_true hop.2⟩
 refine loop_go (α := Nat) (fun k => k ≤ 4 ∧ (1 ≤ k → ok1 x 65 = true) ∧ (2 ≤ k → ok1 x 66 = true) ∧ (3 ≤ k → ok1 x 67 = true) ∧ (4 ≤ k → ok1 x 73 = true)) (fun _ => ⟨w, w.heap.size, [], 31, []⟩)
  (fun k => { F := [(1, .ptr 0 0), (9, .slc 1 0 4 4), (10, .val (.int .i64 4)), (11, .val (.int .i64 k))], H := [.cells g 41 [.val (.int .i64 x.op), .val (.int .i64 x.a), .val (.int .i64 x.b), .val (.int .i64 x.c), .val (.int .i64 x.imm)], .frz g1 5 [.int .u8 65, .int .u8 66, .int .u8 67, .int .u8 73]] }) (fun k => 4 - k) (fun _ => rfl) ?start ?round
 case start =>
  intro a W rep
  exact ⟨0, ⟨Nat.zero_le _, fun h => absurd h (by omega), fun h => absurd h (by omega), fun h => absurd h (by omega), fun h => absurd h (by omega)⟩, rep.le (by (simp only [setn, List.nil_append, List.cons_append, leF, leH_nil, leH_cons, leF_nil, lk, scp, scpL, scpO, resF, resH, resO, resV, resVL, nth, Nat.reduceBEq, Nat.reduceLT, decide_true, decide_false, List.length, List.length_cons, List.length_nil, Nat.reduceAdd, Bool.and_self, Bool.and_true, and_true, true_and, numF] <;> try simp)) (by (simp only [setn, List.nil_append, List.cons_append, leF, leH_nil, leH_cons, leF_nil, lk, scp, scpL, scpO, resF, resH, resO, resV, resVL, nth, Nat.reduceBEq, Nat.reduceLT, decide_true, decide_false, List.length, List.length_cons, List.length_nil, Nat.reduceAdd, Bool.and_self, Bool.and_true, and_true, true_and, numF] <;> try simp))⟩
 case round =>
  rintro k ⟨hk, k1, k2, k3, k4⟩ I hI
  (refine Y_go 600 ?_; dsimp only [zq9y, t192n5, T192n5, zq9r, zq9q, Y_k, zq50, zq8o, zq6n, Nat.reduceBEq, zq6l, zq6k, zq04, zq92, zq9b, zq0i, zq9e, YK, zq8t, zq9i, normF, zq6m, zq86, zq87, zq8e, zq8c, t192n4, T192n4, zq9s, zq6h, zq8x, YC, zq9p, t192n3, T192n3, zq9t, zq58, zq06, zq0x, zq5c, zq1o, nth, zq1m, zq1c, List.nil_append, zq1b, zq18, zq4u, zq89, t192n2, T192n2, zq5a, zq14, Nat.add_zero, zq1k, List.length_cons, List.length_nil, Nat.reduceAdd, dropL, takeL, zq19, zq59, zq8q, zq12, zq16, zq1p, zq1e, zq9j, zq9u, popTo, zq6i, YP, t192n6, T192n6, zq8p, zq6o, zq8a, zq9x])
  have ret : ∀ F H, plainB x = false → denAll H F [2] = some [.bool false] → RetG (cxOf Tryz.prog Tryz.f192 K192 T192 R) ⟨w, w.heap.size, [], 31, []⟩ { F := F, H := H } := fun F H hp hd =>
   ret_rule r192 rfl hd fun W hW => hR _ _ ⟨by rw [hp]; rfl, hW.fresh'⟩
  have hcase : k = 0 ∨ k = 1 ∨ k = 2 ∨ k = 3 ∨ k = 4 := by omega
  rcases hcase with rfl | rfl | rfl | rfl | rfl
  ·refine ⟨fun _ => ⟨⟨by omega, by omega⟩, 65, rfl, ⟨by omega, by omega, rfl⟩, rfl, ⟨⟨nmL x.op⟩⟩, hG.cell (sh_get hop), ?_⟩, fun h => absurd h (by decide)⟩
   refine call_val (vs := [.string ⟨⟨nmL x.op⟩⟩, .int .u8 65]) rfl (fun W hW => idx38 _ 65 W) fun v hv => ⟨.val (.int .i64 (Lib.indexByte (nmL x.op) (65 : Int).toNat.toUInt8)), by rw [hv]; simp only [Is], ?_⟩
   (refine Y_go 600 ?_; dsimp only [Int.reduceToNat, zq8t, Y_k, zq50, zq8o, zq6n, Nat.reduceBEq, zq6k, zq8p, zq6q, zq04, zq92, zq9b, zq0i, zq9e, YK, zq4u, Y_gk, zq6d, YR, zq6l, zq9l, zq69, YG, YS, zq6b, zq4v, zq6p, zq0c, zq9i, normF, zq6m, zq8a, zq89, zq87, zq8e, zq86, zq8c, zq9s, zq6g, YC, zq9p, zqa1, zq9q, zq4w, zq0e, zqa2])
   refine ⟨fun hlt => ?_, fun hlt => ?_⟩
   ·have hn : hasL x.op 65 = false := by
     have : Lib.indexByte (nmL x.op) (65 : Int).toNat.toUInt8 < 0 := of_decide_eq_true hlt
     exact decide_eq_false (by omega)
    refine call_val (vs := [.pointer (some ⟨g, 0, none⟩), .int .u8 65]) rfl (fun W hW => field37 g 65 W) fun v hv => ⟨.ptr 0 1, by rw [hv]; simp only [Is]; exact ⟨g, rfl, rfl⟩, ?_⟩
    (refine Y_go 600 ?_; dsimp only [zq8t, Y_gk, zq6n, Nat.reduceBEq, zq6l, zq6k, zq69, YR, zq5i, zq8o, zq29, YK, zq5c, zq1o, nth, zq1k, List.length_cons, List.length_nil, Nat.reduceAdd, dropL, takeL, zq19, zq18, zq50, zq8p, zq6q, zq04, zq92, zq9b, zq0i, zq9d, Y_k, zq4v, zq6p, zq0b, zq9i, normF, zq6m, zq87, zq89, zq8e, zq86, zq8c, zq9s, zq6h, zq8x, YC, zq9y, t192n1, T192n1, zq9r, zq9q, zq4u, zq8a, zq9x, zq9p, zqa1, zq4w, zq0e, zqa2])
    refine ⟨fun hne => ret _ _ ?_ rfl, fun hne => ⟨_, .add64 (by omega) (by omega), lend_rule fun a W rep => hI 1 ⟨by omega, fun _ => ?_, fun h => absurd h (by omega), fun h => absurd h (by omega), fun h => absurd h (by omega)⟩ (by omega) a W (rep.le (by (simp only [setn, List.nil_append, List.cons_append, leF, leH_nil, leH_cons, leF_nil, lk, scp, scpL, scpO, resF, resH, resO, resV, resVL, nth, Nat.reduceBEq, Nat.reduceLT, decide_true, decide_false, List.length, List.length_cons, List.length_nil, Nat.reduceAdd, Bool.and_self, Bool.and_true, and_true, true_and, numF] <;> try simp)) (by (simp only [setn, List.nil_append, List.cons_append, leF, leH_nil, leH_cons, leF_nil, lk, scp, scpL, scpO, resF, resH, resO, resV, resVL, nth, Nat.reduceBEq, Nat.reduceLT, decide_true, decide_false, List.length, List.length_cons, List.length_nil, Nat.reduceAdd, Bool.and_self, Bool.and_true, and_true, true_and, numF] <;> try simp)))⟩⟩
    ·have h0 : x.a ≠ 0 := by simpa using hne
     have : ok1 x 65 = false := by rw [ok1, hn, Bool.false_or]; exact beq_eq_false_iff_ne.2 h0
     rw [plainB, this]; simp
    ·have h0 : x.a = 0 := by simpa using hne
     rw [ok1, hn, Bool.false_or]; exact beq_iff_eq.2 h0
   ·have hn : hasL x.op 65 = true := by
     have : ¬ Lib.indexByte (nmL x.op) (65 : Int).toNat.toUInt8 < 0 := of_decide_eq_false hlt
     exact decide_eq_true (by omega)
    refine ⟨_, .add64 (by omega) (by omega), lend_rule fun a W rep => hI 1 ⟨by omega, fun _ => ?_, fun h => absurd h (by omega), fun h => absurd h (by omega), fun h => absurd h (by omega)⟩ (by omega) a W (rep.le (by (simp only [setn, List.nil_append, List.cons_append, leF, leH_nil, leH_cons, leF_nil, lk, scp, scpL, scpO, resF, resH, resO, resV, resVL, nth, Nat.reduceBEq, Nat.reduceLT, decide_true, decide_false, List.length, List.length_cons, List.length_nil, Nat.reduceAdd, Bool.and_self, Bool.and_true, and_true, true_and, numF] <;> try simp)) (by (simp only [setn, List.nil_append, List.cons_append, leF, leH_nil, leH_cons, leF_nil, lk, scp, scpL, scpO, resF, resH, resO, resV, resVL, nth, Nat.reduceBEq, Nat.reduceLT, decide_true, decide_false, List.length, List.length_cons, List.length_nil, Nat.reduceAdd, Bool.and_self, Bool.and_true, and_true, true_and, numF] <;> try simp)))⟩
    rw [ok1, hn]; rfl
  ·refine ⟨fun _ => ⟨⟨by omega, by omega⟩, 66, rfl, ⟨by omega, by omega, rfl⟩, rfl, ⟨⟨nmL x.op⟩⟩, hG.cell (sh_get hop), ?_⟩, fun h => absurd h (by decide)⟩
   refine call_val (vs := [.string ⟨⟨nmL x.op⟩⟩, .int .u8 66]) rfl (fun W hW => idx38 _ 66 W) fun v hv => ⟨.val (.int .i64 (Lib.indexByte (nmL x.op) (66 : Int).toNat.toUInt8)), by rw [hv]; simp only [Is], ?_⟩
   (refine Y_go 600 ?_; dsimp only [Int.reduceToNat, zq8t, Y_k, zq50, zq8o, zq6n, Nat.reduceBEq, zq6k, zq8p, zq6q, zq04, zq92, zq9b, zq0i, zq9e, YK, zq4u, Y_gk, zq6d, YR, zq6l, zq9l, zq69, YG, YS, zq6b, zq4v, zq6p, zq0c, zq9i, normF, zq6m, zq8a, zq89, zq87, zq8e, zq86, zq8c, zq9s, zq6g, YC, zq9p, zqa1, zq9q, zq4w, zq0e, zqa2])
   refine ⟨fun hlt => ?_, fun hlt => ?_⟩
   ·have hn : hasL x.op 66 = false := by
     have : Lib.indexByte (nmL x.op) (66 : Int).toNat.toUInt8 < 0 := of_decide_eq_true hlt
     exact decide_eq_false (by omega)
    refine call_val (vs := [.pointer (some ⟨g, 0, none⟩), .int .u8 66]) rfl (fun W hW => field37 g 66 W) fun v hv => ⟨.ptr 0 2, by rw [hv]; simp only [Is]; exact ⟨g, rfl, rfl⟩, ?_⟩
    (refine Y_go 600 ?_; dsimp only [zq8t, Y_gk, zq6n, Nat.reduceBEq, zq6l, zq6k, zq69, YR, zq5i, zq8o, zq29, YK, zq5c, zq1o, nth, zq1k, List.length_cons, List.length_nil, Nat.reduceAdd, dropL, takeL, zq19, zq18, zq50, zq8p, zq6q, zq04, zq92, zq9b, zq0i, zq9d, Y_k, zq4v, zq6p, zq0b, zq9i, normF, zq6m, zq87, zq89, zq8e, zq86, zq8c, zq9s, zq6h, zq8x, YC, zq9y, t192n1, T192n1, zq9r, zq9q, zq4u, zq8a, zq9x, zq9p, zqa1, zq4w, zq0e, zqa2])
    refine ⟨fun hne => ret _ _ ?_ rfl, fun hne => ⟨_, .add64 (by omega) (by omega), lend_rule fun a W rep => hI 2 ⟨by omega, fun _ => k1 (by omega), fun _ => ?_, fun h => absurd h (by omega), fun h => absurd h (by omega)⟩ (by omega) a W (rep.le (by (simp only [setn, List.nil_append, List.cons_append, leF, leH_nil, leH_cons, leF_nil, lk, scp, scpL, scpO, resF, resH, resO, resV, resVL, nth, Nat.reduceBEq, Nat.reduceLT, decide_true, decide_false, List.length, List.length_cons, List.length_nil, Nat.reduceAdd, Bool.and_self, Bool.and_true, and_true, true_and, numF] <;> try simp)) (by (simp only [setn, List.nil_append, List.cons_append, leF, leH_nil, leH_cons, leF_nil, lk, scp, scpL, scpO, resF, resH, resO, resV, resVL, nth, Nat.reduceBEq, Nat.reduceLT, decide_true, decide_false, List.length, List.length_cons, List.length_nil, Nat.reduceAdd, Bool.and_self, Bool.and_true, and_true, true_and, numF] <;> try simp)))⟩⟩
    ·have h0 : x.b ≠ 0 := by simpa using hne
     have : ok1 x 66 = false := by rw [ok1, hn, Bool.false_or]; exact beq_eq_false_iff_ne.2 h0
     rw [plainB, this]; simp
    ·have h0 : x.b = 0 := by simpa using hne
     rw [ok1, hn, Bool.false_or]; exact beq_iff_eq.2 h0
   ·have hn : hasL x.op 66 = true := by
     have : ¬ Lib.indexByte (nmL x.op) (66 : Int).toNat.toUInt8 < 0 := of_decide_eq_false hlt
     exact decide_eq_true (by omega)
    refine ⟨_, .add64 (by omega) (by omega), lend_rule fun a W rep => hI 2 ⟨by omega, fun _ => k1 (by omega), fun _ => ?_, fun h => absurd h (by omega), fun h => absurd h (by omega)⟩ (by omega) a W (rep.le (by (simp only [setn, List.nil_append, List.cons_append, leF, leH_nil, leH_cons, leF_nil, lk, scp, scpL, scpO, resF, resH, resO, resV, resVL, nth, Nat.reduceBEq, Nat.reduceLT, decide_true, decide_false, List.length, List.length_cons, List.length_nil, Nat.reduceAdd, Bool.and_self, Bool.and_true, and_true, true_and, numF] <;> try simp)) (by (simp only [setn, List.nil_append, List.cons_append, leF, leH_nil, leH_cons, leF_nil, lk, scp, scpL, scpO, resF, resH, resO, resV, resVL, nth, Nat.reduceBEq, Nat.reduceLT, decide_true, decide_false, List.length, List.length_cons, List.length_nil, Nat.reduceAdd, Bool.and_self, Bool.and_true, and_true, true_and, numF] <;> try simp)))⟩
    rw [ok1, hn]; rfl
  ·refine ⟨fun _ => ⟨⟨by omega, by omega⟩, 67, rfl, ⟨by omega, by omega, rfl⟩, rfl, ⟨⟨nmL x.op⟩⟩, hG.cell (sh_get hop), ?_⟩, fun h => absurd h (by decide)⟩
   refine call_val (vs := [.string ⟨⟨nmL x.op⟩⟩, .int .u8 67]) rfl (fun W hW => idx38 _ 67 W) fun v hv => ⟨.val (.int .i64 (Lib.indexByte (nmL x.op) (67 : Int).toNat.toUInt8)), by rw [hv]; simp only [Is], ?_⟩
   (refine Y_go 600 ?_; dsimp only [Int.reduceToNat, zq8t, Y_k, zq50, zq8o, zq6n, Nat.reduceBEq, zq6k, zq8p, zq6q, zq04, zq92, zq9b, zq0i, zq9e, YK, zq4u, Y_gk, zq6d, YR, zq6l, zq9l, zq69, YG, YS, zq6b, zq4v, zq6p, zq0c, zq9i, normF, zq6m, zq8a, zq89, zq87, zq8e, zq86, zq8c, zq9s, zq6g, YC, zq9p, zqa1, zq9q, zq4w, zq0e, zqa2])
   refine ⟨fun hlt => ?_, fun hlt => ?_⟩
   ·have hn : hasL x.op 67 = false := by
     have : Lib.indexByte (nmL x.op) (67 : Int).toNat.toUInt8 < 0 := of_decide_eq_true hlt
     exact decide_eq_false (by omega)
    refine call_val (vs := [.pointer (some ⟨g, 0, none⟩), .int .u8 67]) rfl (fun W hW => field37 g 67 W) fun v hv => ⟨.ptr 0 3, by rw [hv]; simp only [Is]; exact ⟨g, rfl, rfl⟩, ?_⟩
    (refine Y_go 600 ?_; dsimp only [zq8t, Y_gk, zq6n, Nat.reduceBEq, zq6l, zq6k, zq69, YR, zq5i, zq8o, zq29, YK, zq5c, zq1o, nth, zq1k, List.length_cons, List.length_nil, Nat.reduceAdd, dropL, takeL, zq19, zq18, zq50, zq8p, zq6q, zq04, zq92, zq9b, zq0i, zq9d, Y_k, zq4v, zq6p, zq0b, zq9i, normF, zq6m, zq87, zq89, zq8e, zq86, zq8c, zq9s, zq6h, zq8x, YC, zq9y, t192n1, T192n1, zq9r, zq9q, zq4u, zq8a, zq9x, zq9p, zqa1, zq4w, zq0e, zqa2])
    refine ⟨fun hne => ret _ _ ?_ rfl, fun hne => ⟨_, .add64 (by omega) (by omega), lend_rule fun a W rep => hI 3 ⟨by omega, fun _ => k1 (by omega), fun _ => k2 (by omega), fun _ => ?_, fun h => absurd h (by omega)⟩ (by omega) a W (rep.le (by (simp only [setn, List.nil_append, List.cons_append, leF, leH_nil, leH_cons, leF_nil, lk, scp, scpL, scpO, resF, resH, resO, resV, resVL, nth, Nat.reduceBEq, Nat.reduceLT, decide_true, decide_false, List.length, List.length_cons, List.length_nil, Nat.reduceAdd, Bool.and_self, Bool.and_true, and_true, true_and, numF] <;> try simp)) (by (simp only [setn, List.nil_append, List.cons_append, leF, leH_nil, leH_cons, leF_nil, lk, scp, scpL, scpO, resF, resH, resO, resV, resVL, nth, Nat.reduceBEq, Nat.reduceLT, decide_true, decide_false, List.length, List.length_cons, List.length_nil, Nat.reduceAdd, Bool.and_self, Bool.and_true, and_true, true_and, numF] <;> try simp)))⟩⟩
    ·have h0 : x.c ≠ 0 := by simpa using hne
     have : ok1 x 67 = false := by rw [ok1, hn, Bool.false_or]; exact beq_eq_false_iff_ne.2 h0
     rw [plainB, this]; simp
    ·have h0 : x.c = 0 := by simpa using hne
     rw [ok1, hn, Bool.false_or]; exact beq_iff_eq.2 h0
   ·have hn : hasL x.op 67 = true := by
     have : ¬ Lib.indexByte (nmL x.op) (67 : Int).toNat.toUInt8 < 0 := of_decide_eq_false hlt
     exact decide_eq_true (by omega)
    refine ⟨_, .add64 (by omega) (by omega), lend_rule fun a W rep => hI 3 ⟨by omega, fun _ => k1 (by omega), fun _ => k2 (by omega), fun _ => ?_, fun h => absurd h (by omega)⟩ (by omega) a W (rep.le (by (simp only [setn, List.nil_append, List.cons_append, leF, leH_nil, leH_cons, leF_nil, lk, scp, scpL, scpO, resF, resH, resO, resV, resVL, nth, Nat.reduceBEq, Nat.reduceLT, decide_true, decide_false, List.length, List.length_cons, List.length_nil, Nat.reduceAdd, Bool.and_self, Bool.and_true, and_true, true_and, numF] <;> try simp)) (by (simp only [setn, List.nil_append, List.cons_append, leF, leH_nil, leH_cons, leF_nil, lk, scp, scpL, scpO, resF, resH, resO, resV, resVL, nth, Nat.reduceBEq, Nat.reduceLT, decide_true, decide_false, List.length, List.length_cons, List.length_nil, Nat.reduceAdd, Bool.and_self, Bool.and_true, and_true, true_and, numF] <;> try simp)))⟩
    rw [ok1, hn]; rfl
  ·refine ⟨fun _ => ⟨⟨by omega, by omega⟩, 73, rfl, ⟨by omega, by omega, rfl⟩, rfl, ⟨⟨nmL x.op⟩⟩, hG.cell (sh_get hop), ?_⟩, fun h => absurd h (by decide)⟩
   refine call_val (vs := [.string ⟨⟨nmL x.op⟩⟩, .int .u8 73]) rfl (fun W hW => idx38 _ 73 W) fun v hv => ⟨.val (.int .i64 (Lib.indexByte (nmL x.op) (73 : Int).toNat.toUInt8)), by rw [hv]; simp only [Is], ?_⟩
   (refine Y_go 600 ?_; dsimp only [Int.reduceToNat, zq8t, Y_k, zq50, zq8o, zq6n, Nat.reduceBEq, zq6k, zq8p, zq6q, zq04, zq92, zq9b, zq0i, zq9e, YK, zq4u, Y_gk, zq6d, YR, zq6l, zq9l, zq69, YG, YS, zq6b, zq4v, zq6p, zq0c, zq9i, normF, zq6m, zq8a, zq89, zq87, zq8e, zq86, zq8c, zq9s, zq6g, YC, zq9p, zqa1, zq9q, zq4w, zq0e, zqa2])
   refine ⟨fun hlt => ?_, fun hlt => ?_⟩
   ·have hn : hasL x.op 73 = false := by
     have : Lib.indexByte (nmL x.op) (73 : Int).toNat.toUInt8 < 0 := of_decide_eq_true hlt
     exact decide_eq_false (by omega)
    refine call_val (vs := [.pointer (some ⟨g, 0, none⟩), .int .u8 73]) rfl (fun W hW => field37 g 73 W) fun v hv => ⟨.ptr 0 4, by rw [hv]; simp only [Is]; exact ⟨g, rfl, rfl⟩, ?_⟩
    (refine Y_go 600 ?_; dsimp only [zq8t, Y_gk, zq6n, Nat.reduceBEq, zq6l, zq6k, zq69, YR, zq5i, zq8o, zq29, YK, zq5c, zq1o, nth, zq1k, List.length_cons, List.length_nil, Nat.reduceAdd, dropL, takeL, zq19, zq18, zq50, zq8p, zq6q, zq04, zq92, zq9b, zq0i, zq9d, Y_k, zq4v, zq6p, zq0b, zq9i, normF, zq6m, zq87, zq89, zq8e, zq86, zq8c, zq9s, zq6h, zq8x, YC, zq9y, t192n1, T192n1, zq9r, zq9q, zq4u, zq8a, zq9x, zq9p, zqa1, zq4w, zq0e, zqa2])
    refine ⟨fun hne => ret _ _ ?_ rfl, fun hne => ⟨_, .add64 (by omega) (by omega), lend_rule fun a W rep => hI 4 ⟨by omega, fun _ => k1 (by omega), fun _ => k2 (by omega), fun _ => k3 (by omega), fun _ => ?_⟩ (by omega) a W (rep.le (by (simp only [setn, List.nil_append, List.cons_append, leF, leH_nil, leH_cons, leF_nil, lk, scp, scpL, scpO, resF, resH, resO, resV, resVL, nth, Nat.reduceBEq, Nat.reduceLT, decide_true, decide_false, List.length, List.length_cons, List.length_nil, Nat.reduceAdd, Bool.and_self, Bool.and_true, and_true, true_and, numF] <;> try simp)) (by (simp only [setn, List.nil_append, List.cons_append, leF, leH_nil, leH_cons, leF_nil, lk, scp, scpL, scpO, resF, resH, resO, resV, resVL, nth, Nat.reduceBEq, Nat.reduceLT, decide_true, decide_false, List.length, List.length_cons, List.length_nil, Nat.reduceAdd, Bool.and_self, Bool.and_true, and_true, true_and, numF] <;> try simp)))⟩⟩
    ·have h0 : x.imm ≠ 0 := by simpa using hne
     have : ok1 x 73 = false := by rw [ok1, hn, Bool.false_or]; exact beq_eq_false_iff_ne.2 h0
     rw [plainB, this]; simp
    ·have h0 : x.imm = 0 := by simpa using hne
     rw [ok1, hn, Bool.false_or]; exact beq_iff_eq.2 h0
   ·have hn : hasL x.op 73 = true := by
     have : ¬ Lib.indexByte (nmL x.op) (73 : Int).toNat.toUInt8 < 0 := of_decide_eq_false hlt
     exact decide_eq_true (by omega)
    refine ⟨_, .add64 (by omega) (by omega), lend_rule fun a W rep => hI 4 ⟨by omega, fun _ => k1 (by omega), fun _ => k2 (by omega), fun _ => k3 (by omega), fun _ => ?_⟩ (by omega) a W (rep.le (by (simp only [setn, List.nil_append, List.cons_append, leF, leH_nil, leH_cons, leF_nil, lk, scp, scpL, scpO, resF, resH, resO, resV, resVL, nth, Nat.reduceBEq, Nat.reduceLT, decide_true, decide_false, List.length, List.length_cons, List.length_nil, Nat.reduceAdd, Bool.and_self, Bool.and_true, and_true, true_and, numF] <;> try simp)) (by (simp only [setn, List.nil_append, List.cons_append, leF, leH_nil, leH_cons, leF_nil, lk, scp, scpL, scpO, resF, resH, resO, resV, resVL, nth, Nat.reduceBEq, Nat.reduceLT, decide_true, decide_false, List.length, List.length_cons, List.length_nil, Nat.reduceAdd, Bool.and_self, Bool.and_true, and_true, true_and, numF] <;> try simp)))⟩
    rw [ok1, hn]; rfl
  ·refine ⟨fun h => absurd h (by decide), fun _ => ret_rule (vs := [_]) r192 rfl rfl fun W hW => hR _ _ ⟨?_, hW.fresh'⟩⟩
   rw [plainB, hl, k1 (by omega), k2 (by omega), k3 (by omega), k4 (by omega)]; rfl
end Go.Proofs.YtlbiogokpadaoaaGreatDoor
