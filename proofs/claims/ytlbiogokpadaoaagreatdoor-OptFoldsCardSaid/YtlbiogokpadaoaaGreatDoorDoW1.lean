/- isa: the closures of Do. -/
import Derived.Test.YtlbiogokpadaoaaGreatDoorBgIsa3
import Derived.Test.YtlbiogokpadaoaaGreatDoorBgCodeIsa
set_option linter.unusedSimpArgs false
set_option linter.unusedVariables false
set_option linter.unnecessarySimpa false
namespace Go.Proofs.YtlbiogokpadaoaaGreatDoor
open Go Go.Sx Go.Isa
set_option maxRecDepth 100000
theorem and7 (n : Int) : BitOk .and .i64 n 7 (n % 8) := by
 show n % 8 = IntKind.i64.wrap (BitVec.ofInt 64 n &&& BitVec.ofInt 64 7).toNat
 have h : (BitVec.ofInt 64 n &&& BitVec.ofInt 64 7).toNat = (BitVec.ofInt 64 n).toNat % 8 := by
  rw [BitVec.toNat_and]
  exact Nat.and_two_pow_sub_one_eq_mod _ 3
 rw [h, BitVec.toNat_ofInt, IntKind.wrap_i64]
 omega
theorem rg_at {r : List Int} (h : r.length = 8) (n : Int) : (r.map uV)[(n % 8).toNat]? = some (.int .u64 (rg r n)) := by
 have hlt : (n % 8).toNat < r.length := by omega
 simp [rg, uV, hlt]
theorem reg52 (A : Option Addr) (r : List Int) (n : Int) (w : World) (hr : r.length = 8) (hA : RowAt w A (r.map uV)) : CallsV Tryz.prog 52 [.int .i64 n, .pointer A] w fun v w' => v = .int .u64 (rg r n) ∧ Fresh w w' := by
 have hs : A.isSome = true := hA.isSome (j := 0) (by simp; omega)
 refine calls_go (keep := K52) (nt := 8) (svs := [.val (.int .i64 n), .adr A 0]) Tryz.func52 x52 n52 (by simp) (by cases A <;> simp [IsL, Is, Addr.add] at hs ⊢) fun R hR => ?_
 (refine Y_go 600 ?_; dsimp only [X52, numF, Nat.reduceAdd, zq9r, zq9q, Y_k, zq4u, zq8p, zq6q, YK, zq8t, zq9i, normF, zq6n, Nat.reduceBEq, zq6l, zq6k, zq87, zq8d, zq9y, t52n0, T52n0, zq8o, zq4y, zq04, zq92, zq9b, zq0g, zq59, zq06, zq12, zq5c, zq1p, zq1c, List.nil_append, zq1b, zq18, zq9x])
 refine ⟨n % 8, and7 n, ⟨by omega, by omega, hs⟩, rg r n, ?_, ?_⟩
 ·rw [Nat.mul_one, Nat.zero_add]; exact hA.cell (rg_at hr n)
 ·exact ret_rule (vs := [_]) r52 rfl rfl fun W hW => hR _ _ ⟨rfl, hW.fresh'⟩
theorem set49 (A B : Option Addr) (x : In) (pc v : Int) (w : World) (hp : 0 ≤ pc ∧ pc < 1024) (hA : RowAt w A [.int .i64 pc]) (hB : RowAt w B x.cells) : CallsV Tryz.prog 49 [.int .u64 v, .pointer A, .pointer B] w fun u w' => u = Ef.val ⟨1, pc + 1, x.a, v, 0⟩ ∧ Fresh w w' := by
 have hs : A.isSome = true := hA.isSome (j := 0) (by simp)
 have ht : B.isSome = true := hB.isSome (j := 0) (by simp [In.cells])
 refine calls_go (keep := K49) (nt := 11) (svs := [.val (.int .u64 v), .adr A 0, .adr B 0]) Tryz.func49 x49 n49 (by simp) (by cases A <;> cases B <;> simp [IsL, Is, Addr.add] at hs ht ⊢) fun R hR => ?_
 (refine Y_go 600 ?_; dsimp only [X49, numF, Nat.reduceAdd, zq9r, zq9q, Y_k, zq5e, List.length_nil, List.map, zq6q, List.nil_append, YK, zq8t, zq9i, normF, zq6n, Nat.reduceBEq, zq6l, zq6k, zq8c, zq8d, zq87, zq9y, t49n0, T49n0, zq5c, zq8o, zq1p, zq1c, zq1b, zq18, zq4w, zq8p, zq04, zq92, zq9b, zq0e, zq5a, zq16, zq4u, zq5g, zq21, zq7u, zq73, zq0a, dropL, takeL, zq20, splice, setn, zq22, zq25, zq5d, zq7t, List.length_cons, zq8l, zq8m, zq8k, zq1x, nth, zq1t, zq1r, zq8s, zq9x])
 intro g
 refine ⟨_, hA.cell (j := 0) rfl, _, .to rfl (by omega) (by omega), ht, _, hB.cell (j := 1) rfl, ?_⟩
 exact ret_rv (vs := [Ef.val ⟨1, pc + 1, x.a, v, 0⟩]) r49 rfl rfl fun W hW => hR _ _ ⟨rfl, hW.fresh'⟩
theorem goes50 (A B : Option Addr) (x : In) (pc : Int) (b : Bool) (w : World) (hp : 0 ≤ pc ∧ pc < 1024) (hA : RowAt w A [.int .i64 pc]) (hB : RowAt w B x.cells) : CallsV Tryz.prog 50 [.bool b, .pointer A, .pointer B] w fun u w' => u = Ef.val (goE x.imm pc b) ∧ Fresh w w' := by
 have hs : A.isSome = true := hA.isSome (j := 0) (by simp)
 have ht : B.isSome = true := hB.isSome (j := 0) (by simp [In.cells])
 refine calls_go (keep := K50) (nt := 22) (svs := [.val (.bool b), .adr A 0, .adr B 0]) Tryz.func50 x50 n50 (by simp) (by cases A <;> cases B <;> simp [IsL, Is, Addr.add] at hs ht ⊢) fun R hR => ?_
 (refine Y_go 600 ?_; dsimp only [X50, numF, Nat.reduceAdd, zq9r, zq9q, Y_k, zq5e, List.length_nil, List.map, zq6q, List.nil_append, YK, zq8t, zq9i, normF, zq6n, Nat.reduceBEq, zq6l, zq6k, zq6m, zq86, zq8c, zq8d, zq87, zq9y, t50n4, T50n4, zq4u, zq8o, zq53, zq0o, zq9s, zq6h, zq8x, YC, t50n0, T50n0, zq5c, zq1p, zq1c, zq1b, zq18, zq4w, zq8p, zq04, zq92, zq9b, zq0e, zq5g, zq21, zq7u, zq73, zq0a, dropL, takeL, zq20, splice, setn, zq22, zq25, zq5d, zq7t, List.length_cons, zq8l, zq8m, zq8k, zq1x, nth, zq1t, zq1r, zq8s, zq89, zq9x, zq9p, t50n3, T50n3, zq5a, zq16, zq50, zq0i, zq9e, Y_gk, zq6e, YS, zq6a, zq4v, zq6o, zq0b, zq8a, zq6f, t50n1, T50n1, YR, zq6c, zq9g, zq0c, t50n2, T50n2])
 intro g
 refine ⟨fun h => ?_, fun h => ?_⟩
 ·have h : b = false := by cases b <;> first | rfl | cases h
  subst h
  refine ⟨_, hA.cell (j := 0) rfl, _, .to rfl (by omega) (by omega), ?_⟩
  exact ret_rv (vs := [Ef.val ⟨2, pc + 1, 0, 0, 0⟩]) r50 rfl rfl fun W hW => hR _ _ ⟨rfl, hW.fresh'⟩
 ·have h : b = true := by cases b <;> first | rfl | cases h
  subst h
  refine ⟨ht, _, hB.cell (j := 4) rfl, ⟨fun h1 => ?_, fun h1 => ⟨ht, _, hB.cell (j := 4) rfl, ⟨fun h2 => ?_, fun h2 => ?_⟩⟩⟩⟩
  ·have h1 := of_decide_eq_true h1
   exact ret_rv (vs := [Ef.val Ef.zero]) r50 rfl rfl fun W hW => hR _ _ ⟨by simp [goE, h1, tupOf], hW.fresh'⟩
  ·have h2 := of_decide_eq_true h2
   exact ret_rv (vs := [Ef.val Ef.zero]) r50 rfl rfl fun W hW => hR _ _ ⟨by have h3 : 1024 < x.imm := h2; simp [goE, h3, tupOf], hW.fresh'⟩
  ·have h1 := of_decide_eq_false h1
   have h2 := of_decide_eq_false h2
   refine ⟨ht, _, hB.cell (j := 4) rfl, ?_⟩
   exact ret_rv (vs := [Ef.val ⟨2, x.imm, 0, 0, 0⟩]) r50 rfl rfl fun W hW => hR _ _ ⟨by rw [goE, if_pos rfl, if_neg (by omega)]; rfl, hW.fresh'⟩
theorem plain51 (A : Option Addr) (k pc : Int) (w : World) (hp : 0 ≤ pc ∧ pc < 1024) (hA : RowAt w A [.int .i64 pc]) : CallsV Tryz.prog 51 [.int .i64 k, .pointer A] w fun u w' => u = Ef.val ⟨k, pc + 1, 0, 0, 0⟩ ∧ Fresh w w' := by
 have hs : A.isSome = true := hA.isSome (j := 0) (by simp)
 refine calls_go (keep := K51) (nt := 8) (svs := [.val (.int .i64 k), .adr A 0]) Tryz.func51 x51 n51 (by simp) (by cases A <;> simp [IsL, Is, Addr.add] at hs ⊢) fun R hR => ?_
 (refine Y_go 600 ?_; dsimp only [X51, numF, Nat.reduceAdd, zq9r, zq9q, Y_k, zq5e, List.length_nil, List.map, zq6q, List.nil_append, YK, zq8t, zq9i, normF, zq6n, Nat.reduceBEq, zq6l, zq6k, zq8c, zq8d, zq87, zq9y, t51n0, T51n0, zq4u, zq8o, zq5c, zq1p, zq1c, zq1b, zq18, zq4w, zq8p, zq04, zq92, zq9b, zq0e, zq5g, zq21, zq7u, zq73, zq0a, dropL, takeL, zq20, splice, setn, zq22, zq25, zq5d, zq7t, List.length_cons, zq8l, zq8m, zq8k, zq1x, nth, zq1t, zq1r, zq8s, zq9x])
 intro g
 refine ⟨_, hA.cell (j := 0) rfl, _, .to rfl (by omega) (by omega), ?_⟩
 exact ret_rv (vs := [Ef.val ⟨k, pc + 1, 0, 0, 0⟩]) r51 rfl rfl fun W hW => hR _ _ ⟨rfl, hW.fresh'⟩
end Go.Proofs.YtlbiogokpadaoaaGreatDoor
namespace Go.Proofs.YtlbiogokpadaoaaGreatDoor
open Go Go.Sx Go.Isa
set_option maxRecDepth 100000
theorem wrapU (z : Int) : IntKind.u64.wrap z = w64 z := by simp [IntKind.wrap, IntKind.bits, IntKind.signed, w64]
theorem addU (a b : Int) : ArOk .add .u64 a b (w64 (a + b)) := (wrapU _).symm
theorem subU (a b : Int) : ArOk .sub .u64 a b (w64 (a - b)) := (wrapU _).symm
theorem mulU (a b : Int) : ArOk .mul .u64 a b (w64 (a * b)) := (wrapU _).symm
theorem andU (a b : Int) : BitOk .and .u64 a b (w64 (BitVec.ofInt 64 a &&& BitVec.ofInt 64 b).toNat) := (wrapU _).symm
theorem xorU (a b : Int) : BitOk .xor .u64 a b (w64 (BitVec.ofInt 64 a ^^^ BitVec.ofInt 64 b).toNat) := (wrapU _).symm
theorem convU (a : Int) : ConvOk .u64 a (w64 a) := (wrapU _).symm
theorem remU {c : Int} (h : isU c) : DivOk .rem .u64 c 64 (c % 64) := .rem_nn h.1 (by omega)
theorem min64 (c : Int) : min (c % 64).toNat IntKind.u64.bits = (c % 64).toNat := by show min _ 64 = _; omega
theorem shlU (b c : Int) : ShOk .shl .u64 b (c % 64) (w64 (b * 2 ^ (c % 64).toNat)) := by
 refine ⟨by omega, ?_⟩
 show _ = IntKind.u64.wrap _
 rw [wrapU, min64]
theorem shrU (b c : Int) : ShOk .shr .u64 b (c % 64) (b / 2 ^ (c % 64).toNat) := .shr _ (by omega) (by rw [min64])
theorem ok52 : fnOk Tryz.prog 52 = true := by kernel_rfl
theorem ok51 : fnOk Tryz.prog 51 = true := by kernel_rfl
theorem ok50 : fnOk Tryz.prog 50 = true := by kernel_rfl
theorem ok49 : fnOk Tryz.prog 49 = true := by kernel_rfl
def Ef.sv (e : Ef) : SV := .agg [.val (.int .i64 e.kind), .val (.int .i64 e.next), .val (.int .i64 e.reg), .val (.int .u64 e.value), .val (.int .u64 e.addr)]
theorem Ef.is (H : List SO) (e : Ef) : Is H (Ef.sv e) (Ef.val e) := by
 simp only [Ef.sv, Is]; exact ⟨e.cells, by simp [Ef.cells, IsL, Is], rfl⟩
set_option maxHeartbeats 8000000 in
theorem do24 (x : In) (r : List Int) (pc : Int) (w : World) (hG : ShAt w) (hr : r.length = 8) (hU : ∀ n ∈ r, isU n) : CallsV Tryz.prog 24 [In.val x, .agg (r.map uV).toArray, .int .i64 pc] w fun v w' => v = Ef.val (doB x r pc) ∧ Fresh w w' := by
 have hru : ∀ n, isU (rg r n) := by
  intro n
  unfold rg
  rw [List.getD_eq_getElem?_getD]
  cases h : r[(n % 8).toNat]? with
  | none => simp [isU]
  | some v => exact hU _ (List.mem_of_getElem? h)
 obtain ⟨r0, r1, r2, r3, r4, r5, r6, r7, rfl⟩ : ∃ r0 r1 r2 r3 r4 r5 r6 r7, r = [r0, r1, r2, r3, r4, r5, r6, r7] := by
  match r, hr with
  | [a, b, c, d, e, f, g, h], _ => exact ⟨a, b, c, d, e, f, g, h, rfl⟩
 refine calls_go (keep := K24) (nt := 163) (svs := [.agg (In.sv x), .agg [.val (.int .u64 r0), .val (.int .u64 r1), .val (.int .u64 r2), .val (.int .u64 r3), .val (.int .u64 r4), .val (.int .u64 r5), .val (.int .u64 r6), .val (.int .u64 r7)], .val (.int .i64 pc)]) Tryz.func24 x24 n24 (by simp) (by simp [IsL, Is, In.sv, In.val, In.cells, uV]) fun R hR => ?_
 (refine Y_go 600 ?_; dsimp only [X24, In.sv, numF, Nat.reduceAdd, zq9r, zq9q, Y_k, zq5f, zq8o, zq6n, Nat.reduceBEq, zq6k, zq7t, List.length_cons, List.length_nil, zq8l, zq73, zq8m, zq8k, zq0a, zq1z, List.nil_append, YK, zq8t, zq6l, List.cons_append, zq7u, zq5e, List.map, zq6q, zq9i, normF, zq6m, zq86, zq8c, zq87, zq88, zq9y, t24n43, T24n43, zq5c, zq1o, nth, zq1k, dropL, takeL, zq19, zq17, zq9j])
 intro g1 g2 g3 g4
 have fin : ∀ (e : Ef) F H, doB x [r0, r1, r2, r3, r4, r5, r6, r7] pc = e → denR H F [RV.cell 6 5 true] = some [Ef.val e] → RetG (cxOf Tryz.prog Tryz.f24 K24 T24 R) ⟨w, w.heap.size, [], 163, []⟩ { F := F, H := H } := by
  intro e F H he hd
  refine ret_rv (vs := [Ef.val e]) r24 rfl hd fun W hW => hR _ _ ⟨by rw [he]; rfl, hW.fresh'⟩
 cases hl : legalB x with
 | false =>
  refine call_val (vs := [In.val x]) rfl (fun W hW => legal21 x W (hG.keep hW.fresh')) fun v hv => ⟨.bf, by rw [hv, hl]; simp [Is], ?_⟩
  (refine Y_go 600 ?_; dsimp only [zq8t, Y_k, zq53, zq8o, zq6n, Nat.reduceBEq, zq6k, zq0n, YK, zq4u, Y_gk, zq6a, YS, zq6l, zq4v, zq8p, zq6o, zq0b, zq9i, normF, zq6m, zq86, zq89, zq8c, zq87, zq88, zq9s, zq6f, YC, zq9y, t24n0, T24n0, zq9r, zq9q, zq5g, List.map, zq6q, zq22, zq25, zq5d, zq7t, List.length_cons, List.length_nil, Nat.reduceAdd, zq8l, zq73, zq8m, zq8k, zq0a, zq1x, nth, zq1t, dropL, takeL, zq1r, splice, setn, zq8s, zq9x])
  exact fin Ef.zero _ _ (by simp [doB, hl]) rfl
 | true =>
  refine call_val (vs := [In.val x]) rfl (fun W hW => legal21 x W (hG.keep hW.fresh')) fun v hv => ⟨.bt, by rw [hv, hl]; simp [Is], ?_⟩
  (refine Y_go 600 ?_; dsimp only [zq8t, Y_k, zq53, zq8o, zq6n, Nat.reduceBEq, zq6k, zq0m, YK, zq4u, Y_gk, zq6c, YR, zq5c, zq6l, zq1o, nth, zq1k, List.length_cons, List.length_nil, Nat.reduceAdd, dropL, takeL, zq19, zq18, zq50, zq8p, zq6q, zq04, zq92, zq9b, zq0i, zq9e, zq4v, zq6o, zq0c, zq6e, YS, zq6a, zq0b, zq9i, normF, zq6m, zq86, zq89, zq8c, zq87, zq88, zq9s, zq6f, YC, zq9y, t24n0, T24n0, zq9r, zq9q, zq5g, List.map, zq22, zq25, zq5d, zq7t, zq8l, zq73, zq8m, zq8k, zq0a, zq1x, zq1t, zq1r, splice, setn, zq8s, zq9x, zq9h, zq6h, zq8x, zq9p, t24n42, T24n42, zq5k, evL, zq8a, zq8j, t24n41, T24n41, t24n40, T24n40, t24n39, T24n39, t24n38, T24n38, zq5a, zq14, zq9k])
  refine ⟨fun h => ?_, fun h => ⟨fun h2 => ?_, fun h2 => ?_⟩⟩
  ·have h := of_decide_eq_true h
   exact fin Ef.zero _ _ (by rw [doB, if_neg (by omega)]) rfl
  ·have h2 := of_decide_eq_true h2
   exact fin Ef.zero _ _ (by rw [doB, if_neg (by omega)]) rfl
  have h := of_decide_eq_false h
  have h2 := of_decide_eq_false h2
  have hp : 0 ≤ pc ∧ pc < 1024 := by omega
  have hd : doB x [r0, r1, r2, r3, r4, r5, r6, r7] pc = doE x (rg [r0, r1, r2, r3, r4, r5, r6, r7] x.a) (rg [r0, r1, r2, r3, r4, r5, r6, r7] x.b) (rg [r0, r1, r2, r3, r4, r5, r6, r7] x.c) pc := by rw [doB, if_pos ⟨hl, hp⟩]
  rw [hd] at fin
  have ua := hru x.a; have ub := hru x.b; have uc := hru x.c
  -- GEN
  have rgc : ∀ (n : Int) (W : World) (H : List SO), HeapOk ⟨w, w.heap.size, [], 163, []⟩ (.cells g1 41 [.val (.int .i64 x.op), .val (.int .i64 x.a), .val (.int .i64 x.b), .val (.int .i64 x.c), .val (.int .i64 x.imm)] :: .cells g2 50 [.val (.int .u64 r0), .val (.int .u64 r1), .val (.int .u64 r2), .val (.int .u64 r3), .val (.int .u64 r4), .val (.int .u64 r5), .val (.int .u64 r6), .val (.int .u64 r7)] :: H) W → CallsV Tryz.prog 52 [.int .i64 n, .pointer (some ⟨g2, 0, none⟩)] W fun v W' => v = .int .u64 (rg [r0, r1, r2, r3, r4, r5, r6, r7] n) ∧ Fresh W W' := fun n W H hW => reg52 _ [r0, r1, r2, r3, r4, r5, r6, r7] n W rfl (hW.cellsAt (i := 1) rfl rfl)
  refine callv_val (f := 52) (fst := []) (caps := [.pointer (some ⟨g2, 0, none⟩)]) (vs := [.int .i64 x.a]) rfl ok52 rfl (fun W hW => rgc x.a W _ hW) fun v hv => ⟨.val (.int .u64 (rg [r0, r1, r2, r3, r4, r5, r6, r7] x.a)), by rw [hv]; simp [Is], ?_⟩
  (refine Y_go 600 ?_; dsimp only [zq8t, zq9m])
  (refine still_y (by dsimp only [zq6n, Nat.reduceBEq, zq6l, zq6k, zq5c, zq8o, zq1o, nth, zq1k, List.length_cons, List.length_nil, Nat.reduceAdd, dropL, takeL, zq19, zq18]; exact ⟨rfl, det_of_den rfl⟩) ?_; refine Y_go 600 ?_; dsimp only [zq9m])
  (refine still_y (by dsimp only [zq6n, Nat.reduceBEq, zq6l, zq6k, zq5c, zq8o, zq1o, nth, zq1k, List.length_cons, List.length_nil, Nat.reduceAdd, dropL, takeL, zq19, zq18]; exact ⟨rfl, det_of_den rfl⟩) ?_; refine Y_go 600 ?_; dsimp only [zq9k])
  refine callv_val (f := 52) (fst := []) (caps := [.pointer (some ⟨g2, 0, none⟩)]) (vs := [.int .i64 x.b]) rfl ok52 rfl (fun W hW => rgc x.b W _ hW) fun v hv => ⟨.val (.int .u64 (rg [r0, r1, r2, r3, r4, r5, r6, r7] x.b)), by rw [hv]; simp [Is], ?_⟩
  (refine Y_go 600 ?_; dsimp only [zq8t, zq9m])
  (refine still_y (by dsimp only [zq6n, Nat.reduceBEq, zq6l, zq6k, zq5c, zq8o, zq1o, nth, zq1k, List.length_cons, List.length_nil, Nat.reduceAdd, dropL, takeL, zq19, zq18]; exact ⟨rfl, det_of_den rfl⟩) ?_; refine Y_go 600 ?_; dsimp only [zq9k])
  refine callv_val (f := 52) (fst := []) (caps := [.pointer (some ⟨g2, 0, none⟩)]) (vs := [.int .i64 x.c]) rfl ok52 rfl (fun W hW => rgc x.c W _ hW) fun v hv => ⟨.val (.int .u64 (rg [r0, r1, r2, r3, r4, r5, r6, r7] x.c)), by rw [hv]; simp [Is], ?_⟩
  (refine Y_go 600 ?_; dsimp only [zq8t, Y_k, zq4u, zq8o, zq6n, Nat.reduceBEq, zq6l, zq6k, YK, zq9i, normF, zq6m, zq86, zq8a, zq87, zq8j, zq8c, zq88, zq9y, t24n37, T24n37, zq9r, zq9q, zq5a, zq14, Nat.reduceAdd, zq5c, zq1o, nth, zq1k, List.length_cons, List.length_nil, dropL, takeL, zq19, zq18, zq54, zq06, zq0p, zq4w, zq04, zq96, zq9b, zq0e, t24n36, T24n36, Nat.add_zero, t24n34, T24n34, zq9t, zq50, zq8p, zq6q, zq92, zq0i, zq9c, zq9s, zq6h, zq8x, YC, t24n1, T24n1, zq9k, t24n33, T24n33, t24n2, T24n2, t24n32, T24n32, t24n3, T24n3, t24n31, T24n31, t24n4, T24n4, t24n30, T24n30, t24n5, T24n5, t24n29, T24n29, t24n6, T24n6, t24n28, T24n28, t24n7, T24n7, zq4y, zq0g, t24n27, T24n27, t24n8, T24n8, t24n26, T24n26, t24n9, T24n9, zq4x, zq0f, zq4z, zq05, zq0h, t24n25, T24n25, t24n10, T24n10, t24n24, T24n24, t24n11, T24n11, zq5g, List.map, zq21, zq7u, zq73, zq0a, zq20, splice, setn, zq22, zq25, zq5d, zq7t, zq8l, zq8m, zq8k, zq1x, zq1t, zq1r, zq8s, zq89, zq9x, t24n23, T24n23, t24n12, T24n12, t24n22, T24n22, t24n13, T24n13, t24n21, T24n21, t24n14, T24n14, t24n20, T24n20, t24n15, T24n15, zq9d, t24n19, T24n19, t24n16, T24n16, zq9e, t24n18, T24n18, t24n17, T24n17, zq9p, zqa1, t24n35, T24n35])
  refine ⟨_, convU _, _, addU _ _, ?_⟩
  have pcA : ∀ (W : World) (H : List SO) e1 e2, HeapOk ⟨w, w.heap.size, [], 163, []⟩ (e1 :: e2 :: .cells g3 3 [.val (.int .i64 pc)] :: H) W → RowAt W (some ⟨g3, 0, none⟩) [.int .i64 pc] := fun W H e1 e2 hW => hW.cellsAt (i := 2) rfl rfl
  have inA : ∀ (W : World) (H : List SO), HeapOk ⟨w, w.heap.size, [], 163, []⟩ (.cells g1 41 [.val (.int .i64 x.op), .val (.int .i64 x.a), .val (.int .i64 x.b), .val (.int .i64 x.c), .val (.int .i64 x.imm)] :: H) W → RowAt W (some ⟨g1, 0, none⟩) x.cells := fun W H hW => hW.cellsAt (i := 0) rfl rfl
  refine ⟨fun b1 => ?_, fun n1 => ⟨fun b2 => ?_, fun n2 => ⟨fun b3 => ?_, fun n3 => ⟨fun b4 => ?_, fun n4 => ⟨fun b5 => ?_, fun n5 => ⟨fun b6 => ?_, fun n6 => ⟨fun b7 => ?_, fun n7 => ⟨fun b8 => ?_, fun n8 => ⟨fun b9 => ?_, fun n9 => ⟨fun b10 => ?_, fun n24 => ⟨fun b11 => ?_, fun n11 => ⟨fun b12 => ?_, fun n12 => ⟨fun b13 => ?_, fun n13 => ⟨fun b14 => ?_, fun n14 => ⟨fun b15 => ?_, fun n15 => ⟨fun b16 => ?_, fun n16 => ⟨fun b17 => ?_, fun n17 => ?_⟩⟩⟩⟩⟩⟩⟩⟩⟩⟩⟩⟩⟩⟩⟩⟩⟩
  ·have e := eq_of_beq b1
   refine callv_val (f := 51) (fst := []) (caps := [.pointer (some ⟨g3, 0, none⟩)]) (vs := [.int .i64 7]) rfl ok51 rfl (fun W hW => plain51 _ 7 pc W hp (pcA W _ _ _ hW)) fun v hv => ⟨Ef.sv ⟨7, pc + 1, 0, 0, 0⟩, by rw [hv]; exact Ef.is _ _, ?_⟩
   (refine Y_go 600 ?_; dsimp only [Ef.sv, zq8t, Y_k, zq5d, zq8o, zq6n, Nat.reduceBEq, zq6l, zq6k, zq7t, List.length_cons, List.length_nil, Nat.reduceAdd, zq8l, zq73, zq8m, zq8k, zq0a, zq1x, nth, zq1t, dropL, takeL, zq1r, splice, setn, YK, zq8s, zq9i, normF, zq6m, zq86, zq89, zq87, zq8a, zq8j, zq8c, zq88, zq9x])
   refine fin (doE x (rg [r0, r1, r2, r3, r4, r5, r6, r7] x.a) (rg [r0, r1, r2, r3, r4, r5, r6, r7] x.b) (rg [r0, r1, r2, r3, r4, r5, r6, r7] x.c) pc) _ _ rfl ?_
   simp only [doE, e]; rfl
  ·have e := eq_of_beq b2
   refine ⟨_, convU _, ?_⟩
   refine callv_val (f := 49) (fst := []) (caps := [.pointer (some ⟨g3, 0, none⟩), .pointer (some ⟨g1, 0, none⟩)]) (vs := [.int .u64 (w64 x.imm)]) rfl ok49 rfl (fun W hW => set49 _ _ x pc _ W hp (pcA W _ _ _ hW) (inA W _ hW)) fun v hv => ⟨Ef.sv ⟨1, pc + 1, x.a, w64 x.imm, 0⟩, by rw [hv]; exact Ef.is _ _, ?_⟩
   (refine Y_go 600 ?_; dsimp only [Ef.sv, zq8t, Y_k, zq5d, zq8o, zq6n, Nat.reduceBEq, zq6l, zq6k, zq7t, List.length_cons, List.length_nil, Nat.reduceAdd, zq8l, zq73, zq8m, zq8k, zq0a, zq1x, nth, zq1t, dropL, takeL, zq1r, splice, setn, YK, zq8s, zq9i, normF, zq6m, zq86, zq89, zq8a, zq87, zq8j, zq8c, zq88, zq9x])
   refine fin (doE x (rg [r0, r1, r2, r3, r4, r5, r6, r7] x.a) (rg [r0, r1, r2, r3, r4, r5, r6, r7] x.b) (rg [r0, r1, r2, r3, r4, r5, r6, r7] x.c) pc) _ _ rfl ?_
   simp only [doE, e]; rfl
  ·have e := eq_of_beq b3
   refine callv_val (f := 49) (fst := []) (caps := [.pointer (some ⟨g3, 0, none⟩), .pointer (some ⟨g1, 0, none⟩)]) (vs := [.int .u64 (rg [r0, r1, r2, r3, r4, r5, r6, r7] x.b)]) rfl ok49 rfl (fun W hW => set49 _ _ x pc _ W hp (pcA W _ _ _ hW) (inA W _ hW)) fun v hv => ⟨Ef.sv ⟨1, pc + 1, x.a, rg [r0, r1, r2, r3, r4, r5, r6, r7] x.b, 0⟩, by rw [hv]; exact Ef.is _ _, ?_⟩
   (refine Y_go 600 ?_; dsimp only [Ef.sv, zq8t, Y_k, zq5d, zq8o, zq6n, Nat.reduceBEq, zq6l, zq6k, zq7t, List.length_cons, List.length_nil, Nat.reduceAdd, zq8l, zq73, zq8m, zq8k, zq0a, zq1x, nth, zq1t, dropL, takeL, zq1r, splice, setn, YK, zq8s, zq9i, normF, zq6m, zq86, zq89, zq8a, zq87, zq8j, zq8c, zq88, zq9x])
   refine fin (doE x (rg [r0, r1, r2, r3, r4, r5, r6, r7] x.a) (rg [r0, r1, r2, r3, r4, r5, r6, r7] x.b) (rg [r0, r1, r2, r3, r4, r5, r6, r7] x.c) pc) _ _ rfl ?_
   simp only [doE, e]; rfl
  ·have e := eq_of_beq b4
   refine ⟨_, addU _ _, ?_⟩
   refine callv_val (f := 49) (fst := []) (caps := [.pointer (some ⟨g3, 0, none⟩), .pointer (some ⟨g1, 0, none⟩)]) (vs := [.int .u64 (w64 (rg [r0, r1, r2, r3, r4, r5, r6, r7] x.b + rg [r0, r1, r2, r3, r4, r5, r6, r7] x.c))]) rfl ok49 rfl (fun W hW => set49 _ _ x pc _ W hp (pcA W _ _ _ hW) (inA W _ hW)) fun v hv => ⟨Ef.sv ⟨1, pc + 1, x.a, w64 (rg [r0, r1, r2, r3, r4, r5, r6, r7] x.b + rg [r0, r1, r2, r3, r4, r5, r6, r7] x.c), 0⟩, by rw [hv]; exact Ef.is _ _, ?_⟩
   (refine Y_go 600 ?_; dsimp only [Ef.sv, zq8t, Y_k, zq5d, zq8o, zq6n, Nat.reduceBEq, zq6l, zq6k, zq7t, List.length_cons, List.length_nil, Nat.reduceAdd, zq8l, zq73, zq8m, zq8k, zq0a, zq1x, nth, zq1t, dropL, takeL, zq1r, splice, setn, YK, zq8s, zq9i, normF, zq6m, zq86, zq89, zq8a, zq87, zq8j, zq8c, zq88, zq9x])
   refine fin (doE x (rg [r0, r1, r2, r3, r4, r5, r6, r7] x.a) (rg [r0, r1, r2, r3, r4, r5, r6, r7] x.b) (rg [r0, r1, r2, r3, r4, r5, r6, r7] x.c) pc) _ _ rfl ?_
   simp only [doE, e]; rfl
  ·have e := eq_of_beq b5
   refine ⟨_, subU _ _, ?_⟩
   refine callv_val (f := 49) (fst := []) (caps := [.pointer (some ⟨g3, 0, none⟩), .pointer (some ⟨g1, 0, none⟩)]) (vs := [.int .u64 (w64 (rg [r0, r1, r2, r3, r4, r5, r6, r7] x.b - rg [r0, r1, r2, r3, r4, r5, r6, r7] x.c))]) rfl ok49 rfl (fun W hW => set49 _ _ x pc _ W hp (pcA W _ _ _ hW) (inA W _ hW)) fun v hv => ⟨Ef.sv ⟨1, pc + 1, x.a, w64 (rg [r0, r1, r2, r3, r4, r5, r6, r7] x.b - rg [r0, r1, r2, r3, r4, r5, r6, r7] x.c), 0⟩, by rw [hv]; exact Ef.is _ _, ?_⟩
   (refine Y_go 600 ?_; dsimp only [Ef.sv, zq8t, Y_k, zq5d, zq8o, zq6n, Nat.reduceBEq, zq6l, zq6k, zq7t, List.length_cons, List.length_nil, Nat.reduceAdd, zq8l, zq73, zq8m, zq8k, zq0a, zq1x, nth, zq1t, dropL, takeL, zq1r, splice, setn, YK, zq8s, zq9i, normF, zq6m, zq86, zq89, zq8a, zq87, zq8j, zq8c, zq88, zq9x])
   refine fin (doE x (rg [r0, r1, r2, r3, r4, r5, r6, r7] x.a) (rg [r0, r1, r2, r3, r4, r5, r6, r7] x.b) (rg [r0, r1, r2, r3, r4, r5, r6, r7] x.c) pc) _ _ rfl ?_
   simp only [doE, e]; rfl
  ·have e := eq_of_beq b6
   refine ⟨_, mulU _ _, ?_⟩
   refine callv_val (f := 49) (fst := []) (caps := [.pointer (some ⟨g3, 0, none⟩), .pointer (some ⟨g1, 0, none⟩)]) (vs := [.int .u64 (w64 (rg [r0, r1, r2, r3, r4, r5, r6, r7] x.b * rg [r0, r1, r2, r3, r4, r5, r6, r7] x.c))]) rfl ok49 rfl (fun W hW => set49 _ _ x pc _ W hp (pcA W _ _ _ hW) (inA W _ hW)) fun v hv => ⟨Ef.sv ⟨1, pc + 1, x.a, w64 (rg [r0, r1, r2, r3, r4, r5, r6, r7] x.b * rg [r0, r1, r2, r3, r4, r5, r6, r7] x.c), 0⟩, by rw [hv]; exact Ef.is _ _, ?_⟩
   (refine Y_go 600 ?_; dsimp only [Ef.sv, zq8t, Y_k, zq5d, zq8o, zq6n, Nat.reduceBEq, zq6l, zq6k, zq7t, List.length_cons, List.length_nil, Nat.reduceAdd, zq8l, zq73, zq8m, zq8k, zq0a, zq1x, nth, zq1t, dropL, takeL, zq1r, splice, setn, YK, zq8s, zq9i, normF, zq6m, zq86, zq89, zq8a, zq87, zq8j, zq8c, zq88, zq9x])
   refine fin (doE x (rg [r0, r1, r2, r3, r4, r5, r6, r7] x.a) (rg [r0, r1, r2, r3, r4, r5, r6, r7] x.b) (rg [r0, r1, r2, r3, r4, r5, r6, r7] x.c) pc) _ _ rfl ?_
   simp only [doE, e]; rfl
  ·have e := eq_of_beq b7
   refine ⟨_, andU _ _, ?_⟩
   refine callv_val (f := 49) (fst := []) (caps := [.pointer (some ⟨g3, 0, none⟩), .pointer (some ⟨g1, 0, none⟩)]) (vs := [.int .u64 (w64 (BitVec.ofInt 64 (rg [r0, r1, r2, r3, r4, r5, r6, r7] x.b) &&& BitVec.ofInt 64 (rg [r0, r1, r2, r3, r4, r5, r6, r7] x.c)).toNat)]) rfl ok49 rfl (fun W hW => set49 _ _ x pc _ W hp (pcA W _ _ _ hW) (inA W _ hW)) fun v hv => ⟨Ef.sv ⟨1, pc + 1, x.a, w64 (BitVec.ofInt 64 (rg [r0, r1, r2, r3, r4, r5, r6, r7] x.b) &&& BitVec.ofInt 64 (rg [r0, r1, r2, r3, r4, r5, r6, r7] x.c)).toNat, 0⟩, by rw [hv]; exact Ef.is _ _, ?_⟩
   (refine Y_go 600 ?_; dsimp only [Ef.sv, zq8t, Y_k, zq5d, zq8o, zq6n, Nat.reduceBEq, zq6l, zq6k, zq7t, List.length_cons, List.length_nil, Nat.reduceAdd, zq8l, zq73, zq8m, zq8k, zq0a, zq1x, nth, zq1t, dropL, takeL, zq1r, splice, setn, YK, zq8s, zq9i, normF, zq6m, zq86, zq89, zq8a, zq87, zq8j, zq8c, zq88, zq9x])
   refine fin (doE x (rg [r0, r1, r2, r3, r4, r5, r6, r7] x.a) (rg [r0, r1, r2, r3, r4, r5, r6, r7] x.b) (rg [r0, r1, r2, r3, r4, r5, r6, r7] x.c) pc) _ _ rfl ?_
   simp only [doE, e]; rfl
  ·have e := eq_of_beq b8
   refine ⟨_, xorU _ _, ?_⟩
   refine callv_val (f := 49) (fst := []) (caps := [.pointer (some ⟨g3, 0, none⟩), .pointer (some ⟨g1, 0, none⟩)]) (vs := [.int .u64 (w64 (BitVec.ofInt 64 (rg [r0, r1, r2, r3, r4, r5, r6, r7] x.b) ^^^ BitVec.ofInt 64 (rg [r0, r1, r2, r3, r4, r5, r6, r7] x.c)).toNat)]) rfl ok49 rfl (fun W hW => set49 _ _ x pc _ W hp (pcA W _ _ _ hW) (inA W _ hW)) fun v hv => ⟨Ef.sv ⟨1, pc + 1, x.a, w64 (BitVec.ofInt 64 (rg [r0, r1, r2, r3, r4, r5, r6, r7] x.b) ^^^ BitVec.ofInt 64 (rg [r0, r1, r2, r3, r4, r5, r6, r7] x.c)).toNat, 0⟩, by rw [hv]; exact Ef.is _ _, ?_⟩
   (refine Y_go 600 ?_; dsimp only [Ef.sv, zq8t, Y_k, zq5d, zq8o, zq6n, Nat.reduceBEq, zq6l, zq6k, zq7t, List.length_cons, List.length_nil, Nat.reduceAdd, zq8l, zq73, zq8m, zq8k, zq0a, zq1x, nth, zq1t, dropL, takeL, zq1r, splice, setn, YK, zq8s, zq9i, normF, zq6m, zq86, zq89, zq8a, zq87, zq8j, zq8c, zq88, zq9x])
   refine fin (doE x (rg [r0, r1, r2, r3, r4, r5, r6, r7] x.a) (rg [r0, r1, r2, r3, r4, r5, r6, r7] x.b) (rg [r0, r1, r2, r3, r4, r5, r6, r7] x.c) pc) _ _ rfl ?_
   simp only [doE, e]; rfl
  ·have e := eq_of_beq b9
   refine ⟨_, remU uc, _, shlU _ _, ?_⟩
   refine callv_val (f := 49) (fst := []) (caps := [.pointer (some ⟨g3, 0, none⟩), .pointer (some ⟨g1, 0, none⟩)]) (vs := [.int .u64 (w64 (rg [r0, r1, r2, r3, r4, r5, r6, r7] x.b * 2 ^ (rg [r0, r1, r2, r3, r4, r5, r6, r7] x.c % 64).toNat))]) rfl ok49 rfl (fun W hW => set49 _ _ x pc _ W hp (pcA W _ _ _ hW) (inA W _ hW)) fun v hv => ⟨Ef.sv ⟨1, pc + 1, x.a, w64 (rg [r0, r1, r2, r3, r4, r5, r6, r7] x.b * 2 ^ (rg [r0, r1, r2, r3, r4, r5, r6, r7] x.c % 64).toNat), 0⟩, by rw [hv]; exact Ef.is _ _, ?_⟩
   (refine Y_go 600 ?_; dsimp only [Ef.sv, zq8t, Y_k, zq5d, zq8o, zq6n, Nat.reduceBEq, zq6l, zq6k, zq7t, List.length_cons, List.length_nil, Nat.reduceAdd, zq8l, zq73, zq8m, zq8k, zq0a, zq1x, nth, zq1t, dropL, takeL, zq1r, splice, setn, YK, zq8s, zq9i, normF, zq6m, zq86, zq89, zq8a, zq87, zq8j, zq8c, zq88, zq9x])
   refine fin (doE x (rg [r0, r1, r2, r3, r4, r5, r6, r7] x.a) (rg [r0, r1, r2, r3, r4, r5, r6, r7] x.b) (rg [r0, r1, r2, r3, r4, r5, r6, r7] x.c) pc) _ _ rfl ?_
   simp only [doE, e]; rfl
  ·have e := eq_of_beq b10
   refine ⟨_, remU uc, _, shrU _ _, ?_⟩
   refine callv_val (f := 49) (fst := []) (caps := [.pointer (some ⟨g3, 0, none⟩), .pointer (some ⟨g1, 0, none⟩)]) (vs := [.int .u64 (rg [r0, r1, r2, r3, r4, r5, r6, r7] x.b / 2 ^ (rg [r0, r1, r2, r3, r4, r5, r6, r7] x.c % 64).toNat)]) rfl ok49 rfl (fun W hW => set49 _ _ x pc _ W hp (pcA W _ _ _ hW) (inA W _ hW)) fun v hv => ⟨Ef.sv ⟨1, pc + 1, x.a, rg [r0, r1, r2, r3, r4, r5, r6, r7] x.b / 2 ^ (rg [r0, r1, r2, r3, r4, r5, r6, r7] x.c % 64).toNat, 0⟩, by rw [hv]; exact Ef.is _ _, ?_⟩
   (refine Y_go 600 ?_; dsimp only [Ef.sv, zq8t, Y_k, zq5d, zq8o, zq6n, Nat.reduceBEq, zq6l, zq6k, zq7t, List.length_cons, List.length_nil, Nat.reduceAdd, zq8l, zq73, zq8m, zq8k, zq0a, zq1x, nth, zq1t, dropL, takeL, zq1r, splice, setn, YK, zq8s, zq9i, normF, zq6m, zq86, zq89, zq8a, zq87, zq8j, zq8c, zq88, zq9x])
   refine fin (doE x (rg [r0, r1, r2, r3, r4, r5, r6, r7] x.a) (rg [r0, r1, r2, r3, r4, r5, r6, r7] x.b) (rg [r0, r1, r2, r3, r4, r5, r6, r7] x.c) pc) _ _ rfl ?_
   simp only [doE, e]; rfl
  ·have e := eq_of_beq b11
   refine ⟨_, .to rfl (by omega) (by omega), ?_⟩
   refine fin (doE x (rg [r0, r1, r2, r3, r4, r5, r6, r7] x.a) (rg [r0, r1, r2, r3, r4, r5, r6, r7] x.b) (rg [r0, r1, r2, r3, r4, r5, r6, r7] x.c) pc) _ _ rfl ?_
   simp only [doE, e]; rfl
  ·have e := eq_of_beq b12
   refine ⟨_, .to rfl (by omega) (by omega), ?_⟩
   refine fin (doE x (rg [r0, r1, r2, r3, r4, r5, r6, r7] x.a) (rg [r0, r1, r2, r3, r4, r5, r6, r7] x.b) (rg [r0, r1, r2, r3, r4, r5, r6, r7] x.c) pc) _ _ rfl ?_
   simp only [doE, e]; rfl
  ·have e := eq_of_beq b13
   refine callv_val (f := 50) (fst := []) (caps := [.pointer (some ⟨g3, 0, none⟩), .pointer (some ⟨g1, 0, none⟩)]) (vs := [.bool (true)]) rfl ok50 rfl (fun W hW => goes50 _ _ x pc _ W hp (pcA W _ _ _ hW) (inA W _ hW)) fun v hv => ⟨Ef.sv (goE x.imm pc (true)), by rw [hv]; exact Ef.is _ _, ?_⟩
   (refine Y_go 600 ?_; dsimp only [Ef.sv, zq8t, Y_k, zq5d, zq8o, zq6n, Nat.reduceBEq, zq6l, zq6k, zq7t, List.length_cons, List.length_nil, Nat.reduceAdd, zq8l, zq73, zq8m, zq8k, zq0a, zq1x, nth, zq1t, dropL, takeL, zq1r, splice, setn, YK, zq8s, zq9i, normF, zq6m, zq86, zq89, zq8a, zq87, zq8j, zq8c, zq88, zq9x])
   refine fin (doE x (rg [r0, r1, r2, r3, r4, r5, r6, r7] x.a) (rg [r0, r1, r2, r3, r4, r5, r6, r7] x.b) (rg [r0, r1, r2, r3, r4, r5, r6, r7] x.c) pc) _ _ rfl ?_
   simp only [doE, e]; rfl
  ·have e := eq_of_beq b14
   refine callv_val (f := 50) (fst := []) (caps := [.pointer (some ⟨g3, 0, none⟩), .pointer (some ⟨g1, 0, none⟩)]) (vs := [.bool (rg [r0, r1, r2, r3, r4, r5, r6, r7] x.a == rg [r0, r1, r2, r3, r4, r5, r6, r7] x.b)]) rfl ok50 rfl (fun W hW => goes50 _ _ x pc _ W hp (pcA W _ _ _ hW) (inA W _ hW)) fun v hv => ⟨Ef.sv (goE x.imm pc (rg [r0, r1, r2, r3, r4, r5, r6, r7] x.a == rg [r0, r1, r2, r3, r4, r5, r6, r7] x.b)), by rw [hv]; exact Ef.is _ _, ?_⟩
   (refine Y_go 600 ?_; dsimp only [Ef.sv, zq8t, Y_k, zq5d, zq8o, zq6n, Nat.reduceBEq, zq6l, zq6k, zq7t, List.length_cons, List.length_nil, Nat.reduceAdd, zq8l, zq73, zq8m, zq8k, zq0a, zq1x, nth, zq1t, dropL, takeL, zq1r, splice, setn, YK, zq8s, zq9i, normF, zq6m, zq86, zq89, zq8a, zq87, zq8j, zq8c, zq88, zq9x])
   refine fin (doE x (rg [r0, r1, r2, r3, r4, r5, r6, r7] x.a) (rg [r0, r1, r2, r3, r4, r5, r6, r7] x.b) (rg [r0, r1, r2, r3, r4, r5, r6, r7] x.c) pc) _ _ rfl ?_
   simp only [doE, e]; rfl
  ·have e := eq_of_beq b15
   refine callv_val (f := 50) (fst := []) (caps := [.pointer (some ⟨g3, 0, none⟩), .pointer (some ⟨g1, 0, none⟩)]) (vs := [.bool (rg [r0, r1, r2, r3, r4, r5, r6, r7] x.a != rg [r0, r1, r2, r3, r4, r5, r6, r7] x.b)]) rfl ok50 rfl (fun W hW => goes50 _ _ x pc _ W hp (pcA W _ _ _ hW) (inA W _ hW)) fun v hv => ⟨Ef.sv (goE x.imm pc (rg [r0, r1, r2, r3, r4, r5, r6, r7] x.a != rg [r0, r1, r2, r3, r4, r5, r6, r7] x.b)), by rw [hv]; exact Ef.is _ _, ?_⟩
   (refine Y_go 600 ?_; dsimp only [Ef.sv, zq8t, Y_k, zq5d, zq8o, zq6n, Nat.reduceBEq, zq6l, zq6k, zq7t, List.length_cons, List.length_nil, Nat.reduceAdd, zq8l, zq73, zq8m, zq8k, zq0a, zq1x, nth, zq1t, dropL, takeL, zq1r, splice, setn, YK, zq8s, zq9i, normF, zq6m, zq86, zq89, zq8a, zq87, zq8j, zq8c, zq88, zq9x])
   refine fin (doE x (rg [r0, r1, r2, r3, r4, r5, r6, r7] x.a) (rg [r0, r1, r2, r3, r4, r5, r6, r7] x.b) (rg [r0, r1, r2, r3, r4, r5, r6, r7] x.c) pc) _ _ rfl ?_
   simp only [doE, e]; rfl
  ·have e := eq_of_beq b16
   refine callv_val (f := 50) (fst := []) (caps := [.pointer (some ⟨g3, 0, none⟩), .pointer (some ⟨g1, 0, none⟩)]) (vs := [.bool (decide (rg [r0, r1, r2, r3, r4, r5, r6, r7] x.a < rg [r0, r1, r2, r3, r4, r5, r6, r7] x.b))]) rfl ok50 rfl (fun W hW => goes50 _ _ x pc _ W hp (pcA W _ _ _ hW) (inA W _ hW)) fun v hv => ⟨Ef.sv (goE x.imm pc (decide (rg [r0, r1, r2, r3, r4, r5, r6, r7] x.a < rg [r0, r1, r2, r3, r4, r5, r6, r7] x.b))), by rw [hv]; exact Ef.is _ _, ?_⟩
   (refine Y_go 600 ?_; dsimp only [Ef.sv, zq8t, Y_k, zq5d, zq8o, zq6n, Nat.reduceBEq, zq6l, zq6k, zq7t, List.length_cons, List.length_nil, Nat.reduceAdd, zq8l, zq73, zq8m, zq8k, zq0a, zq1x, nth, zq1t, dropL, takeL, zq1r, splice, setn, YK, zq8s, zq9i, normF, zq6m, zq86, zq89, zq8a, zq87, zq8j, zq8c, zq88, zq9x])
   refine fin (doE x (rg [r0, r1, r2, r3, r4, r5, r6, r7] x.a) (rg [r0, r1, r2, r3, r4, r5, r6, r7] x.b) (rg [r0, r1, r2, r3, r4, r5, r6, r7] x.c) pc) _ _ rfl ?_
   simp only [doE, e]; rfl
  ·have e := eq_of_beq b17
   refine callv_val (f := 51) (fst := []) (caps := [.pointer (some ⟨g3, 0, none⟩)]) (vs := [.int .i64 5]) rfl ok51 rfl (fun W hW => plain51 _ 5 pc W hp (pcA W _ _ _ hW)) fun v hv => ⟨Ef.sv ⟨5, pc + 1, 0, 0, 0⟩, by rw [hv]; exact Ef.is _ _, ?_⟩
   (refine Y_go 600 ?_; dsimp only [Ef.sv, zq8t, Y_k, zq5d, zq8o, zq6n, Nat.reduceBEq, zq6l, zq6k, zq7t, List.length_cons, List.length_nil, Nat.reduceAdd, zq8l, zq73, zq8m, zq8k, zq0a, zq1x, nth, zq1t, dropL, takeL, zq1r, splice, setn, YK, zq8s, zq9i, normF, zq89, zq8a, zq87, zq8j, zq8c, zq88, zq9x])
   refine fin (doE x (rg [r0, r1, r2, r3, r4, r5, r6, r7] x.a) (rg [r0, r1, r2, r3, r4, r5, r6, r7] x.b) (rg [r0, r1, r2, r3, r4, r5, r6, r7] x.c) pc) _ _ rfl ?_
   simp only [doE, e]; rfl
  ·refine callv_val (f := 51) (fst := []) (caps := [.pointer (some ⟨g3, 0, none⟩)]) (vs := [.int .i64 6]) rfl ok51 rfl (fun W hW => plain51 _ 6 pc W hp (pcA W _ _ _ hW)) fun v hv => ⟨Ef.sv ⟨6, pc + 1, 0, 0, 0⟩, by rw [hv]; exact Ef.is _ _, ?_⟩
   (refine Y_go 600 ?_; dsimp only [Ef.sv, zq8t, Y_k, zq5d, zq8o, zq6n, Nat.reduceBEq, zq6l, zq6k, zq7t, List.length_cons, List.length_nil, Nat.reduceAdd, zq8l, zq73, zq8m, zq8k, zq0a, zq1x, nth, zq1t, dropL, takeL, zq1r, splice, setn, YK, zq8s, zq9i, normF, zq8a, zq87, zq8j, zq8c, zq88, zq9x])
   refine fin (doE x (rg [r0, r1, r2, r3, r4, r5, r6, r7] x.a) (rg [r0, r1, r2, r3, r4, r5, r6, r7] x.b) (rg [r0, r1, r2, r3, r4, r5, r6, r7] x.c) pc) _ _ rfl ?_
   have ne : ∀ k : Int, (x.op == k) = false → ¬ x.op = k := fun k h => by simpa using h
   rw [doE, if_neg (ne _ n1), if_neg (ne _ n2), if_neg (ne _ n3), if_neg (ne _ n4), if_neg (ne _ n5), if_neg (ne _ n6), if_neg (ne _ n7), if_neg (ne _ n8), if_neg (ne _ n9), if_neg (ne _ n24), if_neg (ne _ n11), if_neg (ne _ n12), if_neg (ne _ n13), if_neg (ne _ n14), if_neg (ne _ n15), if_neg (ne _ n16), if_neg (ne _ n17)]; rfl
end Go.Proofs.YtlbiogokpadaoaaGreatDoor
