/- isa: the small functions beneath Do and Legal. -/
import Derived.Test.YtlbiogokpadaoaaGreatDoorIsaSpec
import Derived.Test.YtlbiogokpadaoaaGreatDoorSxStill
import Derived.Test.YtlbiogokpadaoaaGreatDoorBgCodeIsa
set_option linter.unusedSimpArgs false
set_option linter.unusedVariables false
set_option linter.unnecessarySimpa false
namespace Go.Proofs.YtlbiogokpadaoaaGreatDoor
open Go Go.Sx Go.Isa
set_option maxRecDepth 100000
def shL : List Value := [.string ⟨⟨[]⟩⟩, .string ⟨⟨[]⟩⟩, .string ⟨⟨[104, 97, 108, 116]⟩⟩, .string ⟨⟨[]⟩⟩, .string ⟨⟨[115, 101, 116]⟩⟩, .string ⟨⟨[65, 73]⟩⟩, .string ⟨⟨[109, 111, 118]⟩⟩, .string ⟨⟨[65, 66]⟩⟩, .string ⟨⟨[97, 100, 100]⟩⟩, .string ⟨⟨[65, 66, 67]⟩⟩, .string ⟨⟨[115, 117, 98]⟩⟩, .string ⟨⟨[65, 66, 67]⟩⟩, .string ⟨⟨[109, 117, 108]⟩⟩, .string ⟨⟨[65, 66, 67]⟩⟩, .string ⟨⟨[97, 110, 100]⟩⟩, .string ⟨⟨[65, 66, 67]⟩⟩, .string ⟨⟨[120, 111, 114]⟩⟩, .string ⟨⟨[65, 66, 67]⟩⟩, .string ⟨⟨[115, 104, 108]⟩⟩, .string ⟨⟨[65, 66, 67]⟩⟩, .string ⟨⟨[115, 104, 114]⟩⟩, .string ⟨⟨[65, 66, 67]⟩⟩, .string ⟨⟨[108, 111, 97, 100]⟩⟩, .string ⟨⟨[65, 66, 73]⟩⟩, .string ⟨⟨[115, 116, 111, 114, 101]⟩⟩, .string ⟨⟨[65, 66, 73]⟩⟩, .string ⟨⟨[106, 117, 109, 112]⟩⟩, .string ⟨⟨[73]⟩⟩, .string ⟨⟨[101, 113]⟩⟩, .string ⟨⟨[65, 66, 73]⟩⟩, .string ⟨⟨[110, 101]⟩⟩, .string ⟨⟨[65, 66, 73]⟩⟩, .string ⟨⟨[108, 116]⟩⟩, .string ⟨⟨[65, 66, 73]⟩⟩, .string ⟨⟨[98, 101, 103, 105, 110]⟩⟩, .string ⟨⟨[]⟩⟩, .string ⟨⟨[101, 110, 100]⟩⟩, .string ⟨⟨[]⟩⟩]
def ShAt (w : World) : Prop := RowAt w (some ⟨0, 0, none⟩) shL
theorem sh_get {op : Int} (h : isOp op = true) : shL[0 + op.toNat * 2 + 1]? = some (.string ⟨⟨nmL op⟩⟩) := by
 rcases isOp_cases h with h | h | h | h | h | h | h | h | h | h | h | h | h | h | h | h | h | h <;> subst h <;> rfl
theorem idx71 (s : ByteArray) (c : Int) (w : World) : CallsV Tryz.prog 71 [.string s, .int .u8 c] w fun v w' => v = .int .i64 (Lib.indexByte s.data.toList c.toNat.toUInt8) ∧ Fresh w w' := by
 refine calls_go (keep := K71) (nt := 8) (svs := [.val (.string s), .val (.int .u8 c)]) Tryz.func71 x71 n71 (by simp) (by simp [IsL, Is]) fun R hR => ?_
 (refine Y_go 600 ?_; dsimp only [X71, numF, Nat.reduceAdd, zq9r, zq9q, Y_k, zq4u, zq8p, zq6q, YK, zq8t, zq9i, normF, zq6n, Nat.reduceBEq, zq6l, zq6k, zq87, zq9y, t71n0, T71n0, zq8o, zq5z, evL, zq4d, zq9x])
 exact ret_rule (vs := [_]) r71 rfl rfl fun W hW => hR _ _ ⟨rfl, hW.fresh'⟩
theorem idx38 (s : ByteArray) (c : Int) (w : World) : CallsV Tryz.prog 38 [.string s, .int .u8 c] w fun v w' => v = .int .i64 (Lib.indexByte s.data.toList c.toNat.toUInt8) ∧ Fresh w w' := by
 refine calls_go (keep := K38) (nt := 8) (svs := [.val (.string s), .val (.int .u8 c)]) Tryz.func38 x38 n38 (by simp) (by simp [IsL, Is]) fun R hR => ?_
 (refine Y_go 600 ?_; dsimp only [X38, numF, Nat.reduceAdd, zq9r, zq9q, Y_k, zq4u, zq8p, zq6q, YK, zq8t, zq9i, normF, zq6n, Nat.reduceBEq, zq6l, zq6k, zq87, zq9y, t38n0, T38n0, zq8o, zq9j])
 refine call_val (vs := [.string s, .int .u8 c]) rfl (fun W _ => idx71 s c W) fun v hv => ⟨.val _, by simpa [Is] using hv, ?_⟩
 (refine Y_go 600 ?_; dsimp only [zq8t, Y_k, zq4u, zq8o, zq6n, Nat.reduceBEq, zq6k, YK, zq9i, normF, zq6l, zq87, zq9x])
 exact ret_rule (vs := [_]) r38 rfl rfl fun W hW => hR _ _ ⟨rfl, hW.fresh'⟩
theorem names37 (op : Int) (w : World) (hG : ShAt w) : CallsV Tryz.prog 37 [.int .i64 op] w fun v w' => v = .tuple #[.string ⟨⟨nmL op⟩⟩, .bool (isOp op)] ∧ Fresh w w' := by
 refine calls_go (keep := K37) (nt := 14) (svs := [.val (.int .i64 op)]) Tryz.func37 x37 n37 (by simp) (by simp [IsL, Is]) fun R hR => ?_
 (refine Y_go 600 ?_; dsimp only [X37, numF, Nat.reduceAdd, zq9r, zq9q, Y_k, zq4u, zq8p, zq6s, YK, zq8t, zq6p, zq9i, normF, zq6n, Nat.reduceBEq, zq6l, zq6k, zq6m, zq86, zq8a, zq87, zq9y, t37n2, T37n2, zq8o, zq50, zq6q, zq04, zq92, zq9b, zq0i, zq9e, Y_gk, zq6e, YS, zq6a, zq4v, zq6o, zq0b, zq89, zq9s, zq6f, YC, t37n0, T37n0, zq9x, YR, zq6c, zq9h, zq0c, zq6h, zq8x, zq9p, t37n1, T37n1, zq59, zq8q, zq06, zq12, zq5a, zq16, zq5c, zq1p, zq1e, List.nil_append, zq1b, zq18])
 have out : isOp op = false → R (tupOf [.string ⟨⟨[]⟩⟩, .bool false]) = R (.tuple #[.string ⟨⟨nmL op⟩⟩, .bool (isOp op)]) := fun h => by rw [nmL_out h, h]; rfl
 refine ⟨fun h => ?_, fun h => ⟨fun h2 => ?_, fun h2 => ?_⟩⟩
 ·have h := of_decide_eq_true h
  refine ret_rule (vs := [.string ⟨⟨[]⟩⟩, .bool false]) r37 rfl rfl fun W hW => ?_
  rw [out (by simp [isOp]; omega)]; exact hR _ _ ⟨rfl, hW.fresh'⟩
 ·have h2 := of_decide_eq_true h2
  refine ret_rule (vs := [.string ⟨⟨[]⟩⟩, .bool false]) r37 rfl rfl fun W hW => ?_
  rw [out (by simp [isOp]; omega)]; exact hR _ _ ⟨rfl, hW.fresh'⟩
 ·have h := of_decide_eq_false h
  have h2 := of_decide_eq_false h2
  have ho : isOp op = true := by simp [isOp]; omega
  refine ⟨⟨by omega, by omega, rfl⟩, rfl, _, hG.cell (sh_get ho), ?_⟩
  exact ret_rule (vs := [_, _]) r37 rfl rfl fun W hW => hR _ _ ⟨by rw [ho]; rfl, hW.fresh'⟩
theorem reg120 (n : Int) (w : World) : CallsV Tryz.prog 120 [.int .i64 n] w fun v w' => v = .bool (isReg n) ∧ Fresh w w' := by
 refine calls_go (keep := K120) (nt := 9) (svs := [.val (.int .i64 n)]) Tryz.func120 x120 n120 (by simp) (by simp [IsL, Is]) fun R hR => ?_
 (refine Y_go 600 ?_; dsimp only [X120, numF, Nat.reduceAdd, zq9r, zq9q, Y_k, zq4u, zq8p, zq6p, YK, zq8t, zq9i, normF, zq6n, Nat.reduceBEq, zq6l, zq6k, zq8a, zq87, zq9y, t120n0, T120n0, zq8o, zq50, zq6q, zq04, zq92, zq9b, zq0i, zq9h, Y_gk, zq6d, YR, zq69, zq9e, zq4v, zq0b, zq9x, YS, zq6b, zq0c])
 refine ⟨fun h => ?_, fun h => ?_⟩
 ·have h1 := of_decide_eq_true h
  exact ret_rule (vs := [_]) r120 rfl rfl fun W hW => hR _ _ ⟨by simp [isReg, tupOf]; omega, hW.fresh'⟩
 ·have h1 := of_decide_eq_false h
  exact ret_rule (vs := [_]) r120 rfl rfl fun W hW => hR _ _ ⟨by simp [isReg, tupOf]; omega, hW.fresh'⟩
end Go.Proofs.YtlbiogokpadaoaaGreatDoor
namespace Go.Proofs.YtlbiogokpadaoaaGreatDoor
open Go Go.Sx Go.Isa
set_option maxRecDepth 100000
def In.sv (x : In) : List SV := [.val (.int .i64 x.op), .val (.int .i64 x.a), .val (.int .i64 x.b), .val (.int .i64 x.c), .val (.int .i64 x.imm)]
def In.val (x : In) : Value := .agg x.cells.toArray
theorem In.is (H : List SO) (x : In) : Is H (.agg (In.sv x)) (In.val x) := by
 simp only [Is]; exact ⟨x.cells, by simp [In.sv, In.cells, IsL, Is], rfl⟩
theorem hasB {op : Int} {c : Int} (h : decide (Lib.indexByte (nmL op) c.toNat.toUInt8 ≥ 0) = true) : hasL op c = true := h
theorem hasN {op : Int} {c : Int} (h : decide (Lib.indexByte (nmL op) c.toNat.toUInt8 ≥ 0) = false) : hasL op c = false := h
structure LI where
 k : Nat
 p : Unit
theorem legal21 (x : In) (w : World) (hG : ShAt w) : CallsV Tryz.prog 21 [In.val x] w fun v w' => v = .bool (legalB x) ∧ Fresh w w' := by
 refine calls_go (keep := K21) (nt := 39) (svs := [.agg (In.sv x)]) Tryz.func21 x21 n21 (by simp) (by simp only [IsL]; exact ⟨_, _, In.is _ x, rfl, rfl⟩) fun R hR => ?_
 (refine Y_go 600 ?_; dsimp only [X21, In.sv, numF, Nat.reduceAdd, zq9r, zq9q, Y_k, zq5f, zq8o, zq6n, Nat.reduceBEq, zq6k, zq7t, List.length_cons, List.length_nil, zq8l, zq73, zq8m, zq8k, zq0a, zq1z, List.nil_append, YK, zq8t, zq4u, zq8p, zq6p, zq9i, normF, zq6l, zq6m, zq86, zq8a, zq8c, zq88, zq9y, t21n7, T21n7, zq5a, zq14, Nat.add_zero, zq5c, zq1o, nth, zq1k, dropL, takeL, zq19, zq18, zq9j])
 intro g
 refine call_val (vs := [.int .i64 x.op]) rfl (fun W hW => names37 x.op W (hG.keep hW.fresh')) fun v hv => ⟨.tup [.val (.string ⟨⟨nmL x.op⟩⟩), .val (.bool (isOp x.op))], by rw [hv]; simp [Is, IsL], ?_⟩
 (refine Y_go 600 ?_; dsimp only [zq8t, Y_k, zq4u, zq8o, zq6n, Nat.reduceBEq, zq6k, YK, zq5j, zq2f, nth, zq2e, zq6l, zq9i, normF, zq6m, zq86, zq87, zq8a, zq8c, zq88, zq9y, t21n6, T21n6, zq9r, zq9q, zq5a, zq14, Nat.reduceAdd, zq5c, zq1o, zq1k, List.length_cons, List.length_nil, dropL, takeL, zq19, zq18, zq5g, List.map, zq6q, zq21, zq7u, zq73, zq0a, zq20, splice, setn, zq22, zq25, zq8p, zq9t, zq9v])
 refine loop_go (α := LI) (fun q => q.k ≤ 3 ∧ (1 ≤ q.k → (!hasL x.op 65 || isReg x.a) = true) ∧ (2 ≤ q.k → (!hasL x.op 66 || isReg x.b) = true) ∧ (3 ≤ q.k → (!hasL x.op 67 || isReg x.c) = true)) (fun _ => ⟨w, w.heap.size, [], 39, []⟩)
  (fun q => { F := [(0, .agg [.val (.int .i64 x.op), .val (.int .i64 x.a), .val (.int .i64 x.b), .val (.int .i64 x.c), .val (.int .i64 x.imm)]), (1, .ptr 0 0), (2, .bf), (3, .val (.string ⟨⟨nmL x.op⟩⟩)), (4, .val (.bool (isOp x.op))), (19, .agg [.val (.int .i64 x.a), .val (.int .i64 x.b), .val (.int .i64 x.c)]), (20, .val (.int .i64 q.k))], H := [.cells g 41 [.val (.int .i64 x.op), .val (.int .i64 x.a), .val (.int .i64 x.b), .val (.int .i64 x.c), .val (.int .i64 x.imm)]] }) (fun q => 3 - q.k) (fun _ => rfl) ?start ?round
 case start =>
  intro a W rep
  refine ⟨⟨0, ()⟩, ⟨Nat.zero_le _, fun h => absurd h (by show ¬ 1 ≤ 0; omega), fun h => absurd h (by show ¬ 2 ≤ 0; omega), fun h => absurd h (by show ¬ 3 ≤ 0; omega)⟩, rep.le ?_ ?_⟩ <;> (simp only [setn, List.nil_append, List.cons_append, leF, leH_nil, leH_cons, leF_nil, lk, scp, scpL, scpO, resF, resH, resO, resV, resVL, nth, Nat.reduceBEq, Nat.reduceLT, decide_true, decide_false, List.length, List.length_cons, List.length_nil, Nat.reduceAdd, Bool.and_self, Bool.and_true, and_true, true_and, numF] <;> try simp)
 case round =>
  rintro ⟨k, _⟩ ⟨hk, h1, h2, h3⟩ I hI
  have hk : k ≤ 3 := hk
  have h1 : 1 ≤ k → (!hasL x.op 65 || isReg x.a) = true := h1
  have h2 : 2 ≤ k → (!hasL x.op 66 || isReg x.b) = true := h2
  have h3 : 3 ≤ k → (!hasL x.op 67 || isReg x.c) = true := h3
  (refine Y_go 600 ?_; dsimp only [zq9y, t21n4, T21n4, zq9r, zq9q, Y_k, zq50, zq8o, zq6n, Nat.reduceBEq, zq6l, zq6k, zq8p, zq6q, zq04, zq92, zq9b, zq0i, zq9e, YK, zq8t, zq9i, normF, zq6m, zq86, zq87, zq88, zq8a, zq8c, t21n3, T21n3, zq9s, zq6h, zq8x, YC, zq9p, t21n2, T21n2, zq9t, zq4u, zq5r, zq06, zq3n, zq89, t21n1, T21n1, zq5q, zq6s, zq3l, zq9j, zq9u, popTo, zq6i, YP, t21n5, T21n5, zq9x])
  refine ⟨fun hlt => ?_, fun hge => ?_⟩
  rotate_left
  ·have hge := of_decide_eq_false hge
   have hk3 : k = 3 := by omega
   refine ret_rule (vs := [.bool (isOp x.op)]) r21 rfl rfl fun W hW => hR _ _ ⟨?_, hW.fresh'⟩
   have e1 := h1 (by omega); have e2 := h2 (by omega); have e3 := h3 (by omega)
   simp [tupOf, legalB, e1, e2, e3]
  ·have hlt := of_decide_eq_true hlt
   have hk' : k = 0 ∨ k = 1 ∨ k = 2 := by omega
   have bad : ∀ (ok : Bool), legalB x = false → R (tupOf [.bool false]) = R (.bool (legalB x)) := fun _ h => by rw [h]; rfl
   rcases hk' with rfl | rfl | rfl
   ·refine ⟨⟨by omega, by omega⟩, x.a, rfl, by omega, 65, rfl, ?_⟩
    refine call_val (vs := [.string ⟨⟨nmL x.op⟩⟩, .int .u8 65]) rfl (fun W hW => idx38 _ _ W) fun v hv => ⟨.val (.int .i64 (Lib.indexByte (nmL x.op) (Int.toNat 65).toUInt8)), by rw [hv]; simp [Is], ?_⟩
    (refine Y_go 600 ?_; dsimp only [Int.reduceToNat, zq8t, Y_k, zq50, zq8o, zq6n, Nat.reduceBEq, zq6k, zq8p, zq6q, zq04, zq92, zq9b, zq0i, zq9h, YK, zq4u, Y_gk, zq6d, YR, zq6l, zq69, zq9e, zq6e, YS, zq6a, zq4v, zq6o, zq0b, zq6p, zq9i, normF, zq89, zq87, zq88, zq8a, zq8c, zq9s, zq6f, YC, zq9y, t21n0, T21n0, zq9r, zq9q, zq9x, zq6c, zq0c, zq6h, zq8x, zq9p, zqa1, zq4w, zq0e, zqa2, zq6b, zq03, zq6g])
    have go : (!hasL x.op 65 || isReg x.a) = true → ∀ (F : List (Nat × SV)), leF 1 F [(0, .agg [.val (.int .i64 x.op), .val (.int .i64 x.a), .val (.int .i64 x.b), .val (.int .i64 x.c), .val (.int .i64 x.imm)]), (1, .ptr 0 0), (2, .bf), (3, .val (.string ⟨⟨nmL x.op⟩⟩)), (4, .val (.bool (isOp x.op))), (19, .agg [.val (.int .i64 x.a), .val (.int .i64 x.b), .val (.int .i64 x.c)]), (20, .val (.int .i64 ((0 : Nat) + 1 : Int)))] → G (cxOf Tryz.prog Tryz.f21 K21 T21 R) ⟨w, w.heap.size, [], 39, []⟩ [.lend I] { F := F, H := [.cells g 41 [.val (.int .i64 x.op), .val (.int .i64 x.a), .val (.int .i64 x.b), .val (.int .i64 x.c), .val (.int .i64 x.imm)]] } := by
     intro hok F hF
     refine lend_rule fun a W rep => hI ⟨0 + 1, ()⟩ ⟨(by show 0 + 1 ≤ 3; omega), ?_, ?_, ?_⟩ (by show 3 - (0 + 1) < 3 - 0; omega) a W (rep.le ?_ ?_)
     ·intro _; exact hok
     ·intro hh; have hh : 2 ≤ 0 + 1 := hh; omega
     ·intro hh; have hh : 3 ≤ 0 + 1 := hh; omega
     ·exact hF
     ·(simp only [setn, List.nil_append, List.cons_append, leF, leH_nil, leH_cons, leF_nil, lk, scp, scpL, scpO, resF, resH, resO, resV, resVL, nth, Nat.reduceBEq, Nat.reduceLT, decide_true, decide_false, List.length, List.length_cons, List.length_nil, Nat.reduceAdd, Bool.and_self, Bool.and_true, and_true, true_and, numF] <;> try simp)
    refine ⟨fun e1 => ⟨fun e2 => ?_, fun e2 => ⟨fun e3 => ?_, fun e3 => ?_⟩⟩, fun e1 => ?_⟩
    ·have e2 := of_decide_eq_true e2
     refine ret_rule (vs := [.bool false]) r21 rfl rfl fun W hW => ?_
     rw [bad true (by simp [legalB, hasB (op := x.op) (c := 65) e1, isReg]; omega)]; exact hR _ _ ⟨rfl, hW.fresh'⟩
    ·have e3 := of_decide_eq_true e3
     refine ret_rule (vs := [.bool false]) r21 rfl rfl fun W hW => ?_
     rw [bad true (by simp [legalB, hasB (op := x.op) (c := 65) e1, isReg]; omega)]; exact hR _ _ ⟨rfl, hW.fresh'⟩
    ·have e2 := of_decide_eq_false e2
     have e3 := of_decide_eq_false e3
     refine ⟨_, .to rfl (by omega) (by omega), go (by simp [isReg]; omega) _ ?_⟩
     (simp only [setn, List.nil_append, List.cons_append, leF, leH_nil, leH_cons, leF_nil, lk, scp, scpL, scpO, resF, resH, resO, resV, resVL, nth, Nat.reduceBEq, Nat.reduceLT, decide_true, decide_false, List.length, List.length_cons, List.length_nil, Nat.reduceAdd, Bool.and_self, Bool.and_true, and_true, true_and, numF] <;> try simp)
    ·refine ⟨_, .to rfl (by omega) (by omega), go (by simp [hasN (op := x.op) (c := 65) e1]) _ ?_⟩
     (simp only [setn, List.nil_append, List.cons_append, leF, leH_nil, leH_cons, leF_nil, lk, scp, scpL, scpO, resF, resH, resO, resV, resVL, nth, Nat.reduceBEq, Nat.reduceLT, decide_true, decide_false, List.length, List.length_cons, List.length_nil, Nat.reduceAdd, Bool.and_self, Bool.and_true, and_true, true_and, numF] <;> try simp)
   ·refine ⟨⟨by omega, by omega⟩, x.b, rfl, by omega, 66, rfl, ?_⟩
    refine call_val (vs := [.string ⟨⟨nmL x.op⟩⟩, .int .u8 66]) rfl (fun W hW => idx38 _ _ W) fun v hv => ⟨.val (.int .i64 (Lib.indexByte (nmL x.op) (Int.toNat 66).toUInt8)), by rw [hv]; simp [Is], ?_⟩
    (refine Y_go 600 ?_; dsimp only [Int.reduceToNat, zq8t, Y_k, zq50, zq8o, zq6n, Nat.reduceBEq, zq6k, zq8p, zq6q, zq04, zq92, zq9b, zq0i, zq9h, YK, zq4u, Y_gk, zq6d, YR, zq6l, zq69, zq9e, zq6e, YS, zq6a, zq4v, zq6o, zq0b, zq6p, zq9i, normF, zq89, zq87, zq88, zq8a, zq8c, zq9s, zq6f, YC, zq9y, t21n0, T21n0, zq9r, zq9q, zq9x, zq6c, zq0c, zq6h, zq8x, zq9p, zqa1, zq4w, zq0e, zqa2, zq6b, zq03, zq6g])
    have go : (!hasL x.op 66 || isReg x.b) = true → ∀ (F : List (Nat × SV)), leF 1 F [(0, .agg [.val (.int .i64 x.op), .val (.int .i64 x.a), .val (.int .i64 x.b), .val (.int .i64 x.c), .val (.int .i64 x.imm)]), (1, .ptr 0 0), (2, .bf), (3, .val (.string ⟨⟨nmL x.op⟩⟩)), (4, .val (.bool (isOp x.op))), (19, .agg [.val (.int .i64 x.a), .val (.int .i64 x.b), .val (.int .i64 x.c)]), (20, .val (.int .i64 ((1 : Nat) + 1 : Int)))] → G (cxOf Tryz.prog Tryz.f21 K21 T21 R) ⟨w, w.heap.size, [], 39, []⟩ [.lend I] { F := F, H := [.cells g 41 [.val (.int .i64 x.op), .val (.int .i64 x.a), .val (.int .i64 x.b), .val (.int .i64 x.c), .val (.int .i64 x.imm)]] } := by
     intro hok F hF
     refine lend_rule fun a W rep => hI ⟨1 + 1, ()⟩ ⟨(by show 1 + 1 ≤ 3; omega), ?_, ?_, ?_⟩ (by show 3 - (1 + 1) < 3 - 1; omega) a W (rep.le ?_ ?_)
     ·intro _; exact h1 (by omega)
     ·intro hh; exact hok
     ·intro hh; have hh : 3 ≤ 1 + 1 := hh; omega
     ·exact hF
     ·(simp only [setn, List.nil_append, List.cons_append, leF, leH_nil, leH_cons, leF_nil, lk, scp, scpL, scpO, resF, resH, resO, resV, resVL, nth, Nat.reduceBEq, Nat.reduceLT, decide_true, decide_false, List.length, List.length_cons, List.length_nil, Nat.reduceAdd, Bool.and_self, Bool.and_true, and_true, true_and, numF] <;> try simp)
    refine ⟨fun e1 => ⟨fun e2 => ?_, fun e2 => ⟨fun e3 => ?_, fun e3 => ?_⟩⟩, fun e1 => ?_⟩
    ·have e2 := of_decide_eq_true e2
     refine ret_rule (vs := [.bool false]) r21 rfl rfl fun W hW => ?_
     rw [bad true (by simp [legalB, hasB (op := x.op) (c := 66) e1, isReg]; omega)]; exact hR _ _ ⟨rfl, hW.fresh'⟩
    ·have e3 := of_decide_eq_true e3
     refine ret_rule (vs := [.bool false]) r21 rfl rfl fun W hW => ?_
     rw [bad true (by simp [legalB, hasB (op := x.op) (c := 66) e1, isReg]; omega)]; exact hR _ _ ⟨rfl, hW.fresh'⟩
    ·have e2 := of_decide_eq_false e2
     have e3 := of_decide_eq_false e3
     refine ⟨_, .to rfl (by omega) (by omega), go (by simp [isReg]; omega) _ ?_⟩
     (simp only [setn, List.nil_append, List.cons_append, leF, leH_nil, leH_cons, leF_nil, lk, scp, scpL, scpO, resF, resH, resO, resV, resVL, nth, Nat.reduceBEq, Nat.reduceLT, decide_true, decide_false, List.length, List.length_cons, List.length_nil, Nat.reduceAdd, Bool.and_self, Bool.and_true, and_true, true_and, numF] <;> try simp)
    ·refine ⟨_, .to rfl (by omega) (by omega), go (by simp [hasN (op := x.op) (c := 66) e1]) _ ?_⟩
     (simp only [setn, List.nil_append, List.cons_append, leF, leH_nil, leH_cons, leF_nil, lk, scp, scpL, scpO, resF, resH, resO, resV, resVL, nth, Nat.reduceBEq, Nat.reduceLT, decide_true, decide_false, List.length, List.length_cons, List.length_nil, Nat.reduceAdd, Bool.and_self, Bool.and_true, and_true, true_and, numF] <;> try simp)
   ·refine ⟨⟨by omega, by omega⟩, x.c, rfl, by omega, 67, rfl, ?_⟩
    refine call_val (vs := [.string ⟨⟨nmL x.op⟩⟩, .int .u8 67]) rfl (fun W hW => idx38 _ _ W) fun v hv => ⟨.val (.int .i64 (Lib.indexByte (nmL x.op) (Int.toNat 67).toUInt8)), by rw [hv]; simp [Is], ?_⟩
    (refine Y_go 600 ?_; dsimp only [Int.reduceToNat, zq8t, Y_k, zq50, zq8o, zq6n, Nat.reduceBEq, zq6k, zq8p, zq6q, zq04, zq92, zq9b, zq0i, zq9h, YK, zq4u, Y_gk, zq6d, YR, zq6l, zq69, zq9e, zq6e, YS, zq6a, zq4v, zq6o, zq0b, zq6p, zq9i, normF, zq89, zq87, zq88, zq8a, zq8c, zq9s, zq6f, YC, zq9y, t21n0, T21n0, zq9r, zq9q, zq9x, zq6c, zq0c, zq6h, zq8x, zq9p, zqa1, zq4w, zq0e, zqa2, zq6b, zq03, zq6g])
    have go : (!hasL x.op 67 || isReg x.c) = true → ∀ (F : List (Nat × SV)), leF 1 F [(0, .agg [.val (.int .i64 x.op), .val (.int .i64 x.a), .val (.int .i64 x.b), .val (.int .i64 x.c), .val (.int .i64 x.imm)]), (1, .ptr 0 0), (2, .bf), (3, .val (.string ⟨⟨nmL x.op⟩⟩)), (4, .val (.bool (isOp x.op))), (19, .agg [.val (.int .i64 x.a), .val (.int .i64 x.b), .val (.int .i64 x.c)]), (20, .val (.int .i64 ((2 : Nat) + 1 : Int)))] → G (cxOf Tryz.prog Tryz.f21 K21 T21 R) ⟨w, w.heap.size, [], 39, []⟩ [.lend I] { F := F, H := [.cells g 41 [.val (.int .i64 x.op), .val (.int .i64 x.a), .val (.int .i64 x.b), .val (.int .i64 x.c), .val (.int .i64 x.imm)]] } := by
     intro hok F hF
     refine lend_rule fun a W rep => hI ⟨2 + 1, ()⟩ ⟨(by show 2 + 1 ≤ 3; omega), ?_, ?_, ?_⟩ (by show 3 - (2 + 1) < 3 - 2; omega) a W (rep.le ?_ ?_)
     ·intro _; exact h1 (by omega)
     ·intro hh; exact h2 (by omega)
     ·intro hh; exact hok
     ·exact hF
     ·(simp only [setn, List.nil_append, List.cons_append, leF, leH_nil, leH_cons, leF_nil, lk, scp, scpL, scpO, resF, resH, resO, resV, resVL, nth, Nat.reduceBEq, Nat.reduceLT, decide_true, decide_false, List.length, List.length_cons, List.length_nil, Nat.reduceAdd, Bool.and_self, Bool.and_true, and_true, true_and, numF] <;> try simp)
    refine ⟨fun e1 => ⟨fun e2 => ?_, fun e2 => ⟨fun e3 => ?_, fun e3 => ?_⟩⟩, fun e1 => ?_⟩
    ·have e2 := of_decide_eq_true e2
     refine ret_rule (vs := [.bool false]) r21 rfl rfl fun W hW => ?_
     rw [bad true (by simp [legalB, hasB (op := x.op) (c := 67) e1, isReg]; omega)]; exact hR _ _ ⟨rfl, hW.fresh'⟩
    ·have e3 := of_decide_eq_true e3
     refine ret_rule (vs := [.bool false]) r21 rfl rfl fun W hW => ?_
     rw [bad true (by simp [legalB, hasB (op := x.op) (c := 67) e1, isReg]; omega)]; exact hR _ _ ⟨rfl, hW.fresh'⟩
    ·have e2 := of_decide_eq_false e2
     have e3 := of_decide_eq_false e3
     refine ⟨_, .to rfl (by omega) (by omega), go (by simp [isReg]; omega) _ ?_⟩
     (simp only [setn, List.nil_append, List.cons_append, leF, leH_nil, leH_cons, leF_nil, lk, scp, scpL, scpO, resF, resH, resO, resV, resVL, nth, Nat.reduceBEq, Nat.reduceLT, decide_true, decide_false, List.length, List.length_cons, List.length_nil, Nat.reduceAdd, Bool.and_self, Bool.and_true, and_true, true_and, numF] <;> try simp)
    ·refine ⟨_, .to rfl (by omega) (by omega), go (by simp [hasN (op := x.op) (c := 67) e1]) _ ?_⟩
     (simp only [setn, List.nil_append, List.cons_append, leF, leH_nil, leH_cons, leF_nil, lk, scp, scpL, scpO, resF, resH, resO, resV, resVL, nth, Nat.reduceBEq, Nat.reduceLT, decide_true, decide_false, List.length, List.length_cons, List.length_nil, Nat.reduceAdd, Bool.and_self, Bool.and_true, and_true, true_and, numF] <;> try simp)
end Go.Proofs.YtlbiogokpadaoaaGreatDoor
