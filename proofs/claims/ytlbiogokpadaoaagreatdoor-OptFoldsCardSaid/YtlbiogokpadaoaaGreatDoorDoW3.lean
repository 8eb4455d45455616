/- The document's shifted. -/
import Derived.Test.YtlbiogokpadaoaaGreatDoorDoW1
import Derived.Test.YtlbiogokpadaoaaGreatDoorBgIsa3
import Derived.Test.YtlbiogokpadaoaaGreatDoorBgCodeIsa
set_option linter.unusedSimpArgs false
set_option linter.unusedVariables false
set_option linter.unnecessarySimpa false
namespace Go.Proofs.YtlbiogokpadaoaaGreatDoor
open Go Go.Sx Go.Isa
set_option maxRecDepth 100000
theorem div2 {v : Int} (h : 0 ≤ v) (k : Nat) : v / (2 ^ k * 2) = v / 2 ^ k / 2 := by
 obtain ⟨n, rfl⟩ := Int.eq_ofNat_of_zero_le h
 exact_mod_cast (Nat.div_div_eq_div_mul n (2 ^ k) 2).symm
theorem shifted121 (v by' : Int) (left : Bool) (w : World) (hv : isU v) (hb : isU by') : CallsV Tryz.prog 121 [.int .u64 v, .int .u64 by', .bool left] w fun u w' => u = .int .u64 (if left then w64 (v * 2 ^ (by' % 64).toNat) else v / 2 ^ (by' % 64).toNat) ∧ Fresh w w' := by
 refine calls_go (keep := K121) (nt := 21) (svs := [.val (.int .u64 v), .val (.int .u64 by'), .val (.bool left)]) Tryz.func121 x121 n121 (by simp) (by simp [IsL, Is]) fun R hR => ?_
 (refine Y_go 600 ?_; dsimp only [X121, numF, Nat.reduceAdd, zq9r, zq9q, Y_k, zq4u, zq8p, zq6q, YK, zq8t, zq9i, normF, zq6n, Nat.reduceBEq, zq6l, zq6k, zq6m, zq86, zq87, zq9y, t121n6, T121n6, zq9t, zq9v])
 refine loop_go (α := Nat) (fun k => (k : Int) ≤ by' % 64) (fun _ => ⟨w, w.heap.size, [], 21, []⟩)
  (fun k => { F := [(0, .val (.int .u64 (if left then w64 (v * 2 ^ k) else v / 2 ^ k))), (1, .val (.int .u64 by')), (2, .val (.bool left)), (7, .val (.int .u64 k))], H := [] }) (fun k => (by' % 64).toNat - k) (fun _ => rfl) ?start ?round
 case start =>
  intro a W rep
  refine ⟨0, by have := Int.emod_nonneg by' (show (64 : Int) ≠ 0 by decide); omega, rep.le ?_ ?_⟩ <;> (simp only [setn, List.nil_append, List.cons_append, leF, leH_nil, leH_cons, leF_nil, lk, scp, scpL, scpO, resF, resH, resO, resV, resVL, nth, Nat.reduceBEq, Nat.reduceLT, decide_true, decide_false, List.length, List.length_cons, List.length_nil, Nat.reduceAdd, Bool.and_self, Bool.and_true, and_true, true_and, numF] <;> try simp)
  cases left <;> simp [w64]
  unfold isU at hv; omega
 case round =>
  intro k hk I hI
  have hk : (k : Int) ≤ by' % 64 := hk
  unfold isU at hb hv
  (refine Y_go 600 ?_; dsimp only [zq9y, t121n4, T121n4, zq9r, zq9q, Y_k, zq4u, zq8o, zq6n, Nat.reduceBEq, zq6l, zq6k, YK, zq8t, zq4x, zq8p, zq6q, zq04, zq96, zq9b, zq0f, zq50, zq0i, zq9e, zq9i, normF, zq6m, zq86, zq87, zq9s, zq6h, zq8x, YC, zq9p, t121n3, T121n3, zq9t, zq89, t121n0, T121n0, zq4w, zq0e, zqa1, t121n2, T121n2, zqa2, t121n1, T121n1, zq8a, zq9u, popTo, zq6i, YP, t121n5, T121n5, zq9x])
  refine ⟨by' % 64, .rem_nn (by omega) (by omega), ⟨fun h1 => ?_, fun h1 => ?_⟩⟩
  ·have h1 := of_decide_eq_true h1
   have hn : ∀ z : Int, ArOk .add .u64 (k : Int) 1 ((k + 1 : Nat) : Int) := fun _ => by
    show ((k + 1 : Nat) : Int) = IntKind.wrap .u64 ((k : Int) + 1)
    simp [IntKind.wrap, IntKind.bits, IntKind.signed]; omega
   have hp : (2 : Int) ^ (k + 1) = 2 * 2 ^ k := by rw [Int.pow_succ]; omega
   refine ⟨fun hl => ?_, fun hl => ?_⟩
   ·subst hl
    refine ⟨w64 (v * 2 ^ (k + 1)), ?_, _, hn 0, lend_rule fun a W rep => hI (k + 1) (by show ((k + 1 : Nat) : Int) ≤ _; omega) (by show _ - (k + 1) < _ - k; omega) a W (rep.le ?_ ?_)⟩
    ·show _ = IntKind.wrap .u64 _
     have : v * 2 ^ (k + 1) = v * 2 ^ k + v * 2 ^ k := by rw [hp, ← Int.mul_add]; congr 1; omega
     rw [this]
     simp [IntKind.wrap, IntKind.bits, IntKind.signed, w64]
    ·(simp only [setn, List.nil_append, List.cons_append, leF, leH_nil, leH_cons, leF_nil, lk, scp, scpL, scpO, resF, resH, resO, resV, resVL, nth, Nat.reduceBEq, Nat.reduceLT, decide_true, decide_false, List.length, List.length_cons, List.length_nil, Nat.reduceAdd, Bool.and_self, Bool.and_true, and_true, true_and, numF] <;> try simp)
    ·(simp only [setn, List.nil_append, List.cons_append, leF, leH_nil, leH_cons, leF_nil, lk, scp, scpL, scpO, resF, resH, resO, resV, resVL, nth, Nat.reduceBEq, Nat.reduceLT, decide_true, decide_false, List.length, List.length_cons, List.length_nil, Nat.reduceAdd, Bool.and_self, Bool.and_true, and_true, true_and, numF] <;> try simp)
   ·subst hl
    refine ⟨v / 2 ^ (k + 1), ?_, _, hn 0, lend_rule fun a W rep => hI (k + 1) (by show ((k + 1 : Nat) : Int) ≤ _; omega) (by show _ - (k + 1) < _ - k; omega) a W (rep.le ?_ ?_)⟩
    ·have h0 : (0 : Int) ≤ v / 2 ^ k := Int.ediv_nonneg hv.1 (Int.le_of_lt (Int.pow_pos (by decide)))
     have h2 : v / 2 ^ k ≤ v := Int.ediv_le_self _ hv.1
     refine ⟨by omega, ?_⟩
     show v / 2 ^ (k + 1) = IntKind.wrap .u64 ((v / 2 ^ k).tdiv 2)
     rw [Int.tdiv_eq_ediv_of_nonneg h0, hp, Int.mul_comm, div2 hv.1]
     simp [IntKind.wrap, IntKind.bits, IntKind.signed]; omega
    ·(simp only [setn, List.nil_append, List.cons_append, leF, leH_nil, leH_cons, leF_nil, lk, scp, scpL, scpO, resF, resH, resO, resV, resVL, nth, Nat.reduceBEq, Nat.reduceLT, decide_true, decide_false, List.length, List.length_cons, List.length_nil, Nat.reduceAdd, Bool.and_self, Bool.and_true, and_true, true_and, numF] <;> try simp)
    ·(simp only [setn, List.nil_append, List.cons_append, leF, leH_nil, leH_cons, leF_nil, lk, scp, scpL, scpO, resF, resH, resO, resV, resVL, nth, Nat.reduceBEq, Nat.reduceLT, decide_true, decide_false, List.length, List.length_cons, List.length_nil, Nat.reduceAdd, Bool.and_self, Bool.and_true, and_true, true_and, numF] <;> try simp)
  ·have h1 := of_decide_eq_false h1
   have e : (by' % 64).toNat = k := by omega
   exact ret_rule (vs := [_]) r121 rfl rfl fun W hW => hR _ _ ⟨by rw [e]; rfl, hW.fresh'⟩
end Go.Proofs.YtlbiogokpadaoaaGreatDoor
namespace Go.Proofs.YtlbiogokpadaoaaGreatDoor
open Go Go.Sx Go.Isa
set_option maxRecDepth 100000
theorem torow_rule {C : Cx} {E : Env} {k : List KI} {s : SS} (i : Nat) {g : Nat} {t : TypeId} {l : List SV} {xs : List Value} (hi : nth s.H i = some (.cells g t l)) (hx : denL s.H l = some xs) (h : G C E k { F := s.F, H := setn s.H i (.row g t xs) }) : G C E k s :=
 fun a W rep => h a W (rep.torow i hi hx)
theorem rgAt {r : List Int} (h : r.length = 8) {a : Int} (h0 : 0 ≤ a) (h1 : a < 8) : (r.map uV)[0 + a.toNat * 1]? = some (.int .u64 (rg r a)) := by
 have e : a % 8 = a := by omega
 have := rg_at h a
 rw [e] at this
 rw [Nat.mul_one, Nat.zero_add]; exact this
theorem isRegI {n : Int} (h : isReg n = true) : 0 ≤ n ∧ n < 8 := by simpa [isReg] using h
section
variable (x : In) (r0 r1 r2 r3 r4 r5 r6 r7 pc : Int) (w : World)
def Post92 (x : In) (r : List Int) (pc : Int) (w : World) : Value → World → Prop := fun v w' => v = Ef.val (doB x r pc) ∧ Fresh w w'
def Walk92 (x : In) (r : List Int) (pc : Int) (w : World) : Prop := CallsV Tryz.prog 92 [In.val x, .agg (r.map uV).toArray, .int .i64 pc] w (Post92 x r pc w)
set_option maxHeartbeats 40000000 in
theorem do92_a (x : In) (r0 r1 r2 r3 r4 r5 r6 r7 pc : Int) (w : World) (ho : x.op = 1 ∨ x.op = 13 ∨ x.op = 17 ∨ x.op = 18) (hU : ∀ n ∈ [r0, r1, r2, r3, r4, r5, r6, r7], isU n) : Walk92 x [r0, r1, r2, r3, r4, r5, r6, r7] pc w := by
 have hru : ∀ n, isU (rg [r0, r1, r2, r3, r4, r5, r6, r7] n) := by
  intro n
  unfold rg
  rw [List.getD_eq_getElem?_getD]
  cases h : [r0, r1, r2, r3, r4, r5, r6, r7][(n % 8).toNat]? with
  | none => simp [isU]
  | some v => exact hU _ (List.mem_of_getElem? h)
 refine calls_go (keep := K92) (nt := 197) (svs := [.agg (In.sv x), .agg [.val (.int .u64 r0), .val (.int .u64 r1), .val (.int .u64 r2), .val (.int .u64 r3), .val (.int .u64 r4), .val (.int .u64 r5), .val (.int .u64 r6), .val (.int .u64 r7)], .val (.int .i64 pc)]) Tryz.func92 x92 n92 (by simp) (by simp [IsL, Is, In.sv, In.val, In.cells, uV]) fun R hR => ?_
 (refine Y_go 600 ?_; dsimp only [X92, In.sv, numF, Nat.reduceAdd, zq9r, zq9q, Y_k, zq5f, zq8o, zq6n, Nat.reduceBEq, zq6k, zq7t, List.length_cons, List.length_nil, zq8l, zq73, zq8m, zq8k, zq0a, zq1z, List.nil_append, YK, zq8t, zq6l, List.cons_append, zq5e, List.map, zq6q, zq9i, normF, zq6m, zq86, zq8c, zq87, zq88, zq9y, t92n48, T92n48, zq5a, zq14, Nat.add_zero, zq5c, zq1o, nth, zq1k, dropL, takeL, zq19, zq18, zq9j])
 intro g1 g2 g3
 refine torow_rule 1 (xs := [.int .u64 r0, .int .u64 r1, .int .u64 r2, .int .u64 r3, .int .u64 r4, .int .u64 r5, .int .u64 r6, .int .u64 r7]) rfl rfl ?_
 dsimp only [setn]
 have fin : ∀ (e : Ef) F H, doB x [r0, r1, r2, r3, r4, r5, r6, r7] pc = e → denR H F [RV.cell 6 5 true] = some [Ef.val e] → RetG (cxOf Tryz.prog Tryz.f92 K92 T92 R) ⟨w, w.heap.size, [], 197, []⟩ { F := F, H := H } := by
  intro e F H he hd
  refine ret_rv (vs := [Ef.val e]) r92 rfl hd fun W hW => hR _ _ ⟨by rw [he]; rfl, hW.fresh'⟩
 refine call_val (vs := [.int .i64 x.op]) rfl (fun W hW => shape119 x.op W) fun v ⟨wd, hv⟩ => ⟨.tup [.agg [.val (.string wd), .bf, .bf, .bf, .val (.bool (hasL x.op 73))], .bt], by rw [hv, show isOp x.op = true by rcases ho with h | h | h | h <;> rw [h] <;> rfl, show hasV x.op wd = .agg #[.string wd, .bool false, .bool false, .bool false, .bool (hasL x.op 73)] by rcases ho with h | h | h | h <;> rw [h] <;> rfl]; simp [Is, IsL], ?_⟩
 (refine Y_go 600 ?_; dsimp only [zq8t, Y_k, zq4u, zq8o, zq6n, Nat.reduceBEq, zq6k, YK, zq5j, zq2f, nth, zq2e, zq6l, zq5e, List.length_cons, List.length_nil, Nat.reduceAdd, List.map, zq6s, zq6p, List.cons_append, List.nil_append, zq5d, zq7t, zq8l, zq75, zq8m, zq7i, zq7g, zq8k, zq0a, zq1x, zq1t, dropL, takeL, zq1r, splice, setn, zq8s, zq9i, normF, zq6m, zq86, zq89, zq8c, zq87, zq88, zq9y, t92n47, T92n47, zq9r, zq9q, zq53, zq0m, Y_gk, zq6c, YR, zq5c, zq1o, zq1k, zq19, zq17, zq9l, YG])
 intro g4
 cases hl : legalB x with
 | false =>
  refine call_val (vs := [In.val x]) rfl (fun W hW => legal90 x W) fun v hv => ⟨.bf, by rw [hv, hl]; simp [Is], ?_⟩
  (refine Y_go 600 ?_; dsimp only [zq8t, Y_gk, zq6n, Nat.reduceBEq, zq6l, zq6k, zq6c, YR, zq53, zq8o, zq0n, YK, Y_k, zq4v, zq8p, zq6o, zq0c, zq4u, zq6a, YS, zq0b, zq9i, normF, zq6m, zq86, zq89, zq8c, zq87, zq88, zq9s, zq6f, YC, zq9y, t92n0, T92n0, zq9r, zq9q, zq5g, List.map, zq6q, zq22, zq25, zq5d, zq7t, List.length_cons, List.length_nil, Nat.reduceAdd, zq8l, zq73, zq8m, zq8k, zq0a, zq1x, nth, zq1t, dropL, takeL, zq1r, splice, setn, zq8s, zq9x])
  exact fin Ef.zero _ _ (by simp [doB, hl]) rfl
 | true =>
  refine call_val (vs := [In.val x]) rfl (fun W hW => legal90 x W) fun v hv => ⟨.bt, by rw [hv, hl]; simp [Is], ?_⟩
  have hll := hl
  simp only [legalB, Bool.and_eq_true] at hll
  obtain ⟨⟨⟨_, hla⟩, hlb⟩, hlc⟩ := hll
  have ua := hru x.a; have ub := hru x.b; have uc := hru x.c
  have hz : ¬ (0 ≤ pc ∧ pc < 1024) → doB x [r0, r1, r2, r3, r4, r5, r6, r7] pc = Ef.zero := fun h => by rw [doB, if_neg (fun k => h k.2)]
  have hd : 0 ≤ pc ∧ pc < 1024 → doB x [r0, r1, r2, r3, r4, r5, r6, r7] pc = doE x (rg [r0, r1, r2, r3, r4, r5, r6, r7] x.a) (rg [r0, r1, r2, r3, r4, r5, r6, r7] x.b) (rg [r0, r1, r2, r3, r4, r5, r6, r7] x.c) pc := fun hp => by rw [doB, if_pos ⟨hl, hp⟩]
  (refine Y_go 600 ?_; dsimp only [zq8t, Y_gk, zq6n, Nat.reduceBEq, zq6l, zq6k, zq6c, YR, zq53, zq8o, zq0m, YK, Y_k, zq4v, zq8p, zq6o, zq0c, zq4u, zq50, zq6q, zq04, zq92, zq9b, zq0i, zq9e, zq6e, YS, zq6a, zq0b, zq9i, normF, zq6m, zq86, zq89, zq8c, zq87, zq88, zq9s, zq6f, YC, zq9y, t92n0, T92n0, zq9r, zq9q, zq5g, List.map, zq22, zq25, zq5d, zq7t, List.length_cons, List.length_nil, Nat.reduceAdd, zq8l, zq73, zq8m, zq8k, zq0a, zq1x, nth, zq1t, dropL, takeL, zq1r, splice, setn, zq8s, zq9x, zq9h, zq6h, zq8x, zq9p, t92n46, T92n46, zq8a, t92n45, T92n45, zq5a, zq14, zq5c, zq1o, zq1k, zq19, zq18, zq6g, t92n44, T92n44, t92n43, T92n43, t92n42, T92n42, zq4w, zq0e, zq21, zq7u, zq20, zq5e, List.cons_append, List.nil_append, t92n41, T92n41, Nat.add_zero, t92n39, T92n39, zq9t, zq9c, t92n4, T92n4, zq54, zq06, zq0p, zqa1, t92n40, T92n40, zq17, t92n38, T92n38, t92n5, T92n5, t92n37, T92n37, t92n6, T92n6, zq96, t92n36, T92n36, t92n7, T92n7, t92n35, T92n35, t92n8, T92n8, t92n34, T92n34, t92n9, T92n9, zq4y, zq0g, t92n33, T92n33, t92n10, T92n10, t92n32, T92n32, t92n11, T92n11, t92n12, T92n12, zq9j, t92n31, T92n31, t92n14, T92n14, t92n13, T92n13, t92n30, T92n30, t92n15, T92n15, t92n29, T92n29, t92n23, T92n23, t92n22, T92n22, zq02, t92n21, T92n21, t92n20, T92n20, t92n19, T92n19, zq9g, zq6d, zq69, zq6p, zq9d, zq6b, t92n18, T92n18, t92n17, T92n17, t92n16, T92n16, t92n28, T92n28, t92n24, T92n24, t92n27, T92n27, t92n25, T92n25, t92n26, T92n26])
  refine ⟨fun h => fin Ef.zero _ _ (hz (by have := of_decide_eq_true h; omega)) rfl, fun h => ⟨fun h2 => fin Ef.zero _ _ (hz (by have := of_decide_eq_true h2; omega)) rfl, fun h2 => ?_⟩⟩
  have h := of_decide_eq_false h
  have h2 := of_decide_eq_false h2
  have hp : 0 ≤ pc ∧ pc < 1024 := by omega
  have hd := hd hp
  rw [hd] at fin
  refine ⟨_, .to rfl (by omega) (by omega), fun g5 => ?_⟩
  rcases ho with ho | ho | ho | ho
  all_goals simp only [ho]
  all_goals simp only [Int.reduceBEq, Int.reduceBNe, Int.reduceToNat, Nat.reduceMul, Nat.reduceAdd, Int.reduceLT, Int.reduceLE, Int.reduceGT, Int.reduceGE, ge_iff_le, gt_iff_lt, Int.reduceSub, Int.reduceAdd, decide_true, decide_false, Bool.false_eq_true, Bool.true_eq_false, Bool.not_true, Bool.not_false, reduceCtorEq, false_implies, true_implies, forall_const, true_and, and_true]
  ·refine ⟨_, .to rfl (by omega) (by omega), ?_⟩
   refine fin (doE x (rg [r0, r1, r2, r3, r4, r5, r6, r7] x.a) (rg [r0, r1, r2, r3, r4, r5, r6, r7] x.b) (rg [r0, r1, r2, r3, r4, r5, r6, r7] x.c) pc) _ _ rfl ?_
   simp only [doE, ho]; rfl
  ·refine ⟨_, .to rfl (by omega) (by omega), ?_⟩
   refine ⟨fun i1 => ?_, fun i1 => ⟨fun i2 => ?_, fun i2 => ?_⟩⟩
   ·have i1 := of_decide_eq_true i1
    exact fin Ef.zero _ _ (by simp only [doE, ho, goE]; simp; omega) rfl
   ·have i2 := of_decide_eq_true i2
    exact fin Ef.zero _ _ (by simp only [doE, ho, goE]; simp; omega) rfl
   ·have i1 := of_decide_eq_false i1; have i2 := of_decide_eq_false i2
    exact fin ⟨2, x.imm, 0, 0, 0⟩ _ _ (by simp only [doE, ho, goE]; simp; omega) rfl
  ·refine ⟨_, .to rfl (by omega) (by omega), ?_⟩
   refine fin (doE x (rg [r0, r1, r2, r3, r4, r5, r6, r7] x.a) (rg [r0, r1, r2, r3, r4, r5, r6, r7] x.b) (rg [r0, r1, r2, r3, r4, r5, r6, r7] x.c) pc) _ _ rfl ?_
   simp only [doE, ho]; rfl
  ·refine ⟨_, .to rfl (by omega) (by omega), ?_⟩
   refine fin (doE x (rg [r0, r1, r2, r3, r4, r5, r6, r7] x.a) (rg [r0, r1, r2, r3, r4, r5, r6, r7] x.b) (rg [r0, r1, r2, r3, r4, r5, r6, r7] x.c) pc) _ _ rfl ?_
   simp only [doE, ho]; rfl
set_option maxHeartbeats 40000000 in
theorem do92_b (x : In) (r0 r1 r2 r3 r4 r5 r6 r7 pc : Int) (w : World) (ho : x.op = 2) (hU : ∀ n ∈ [r0, r1, r2, r3, r4, r5, r6, r7], isU n) : Walk92 x [r0, r1, r2, r3, r4, r5, r6, r7] pc w := by
 have hru : ∀ n, isU (rg [r0, r1, r2, r3, r4, r5, r6, r7] n) := by
  intro n
  unfold rg
  rw [List.getD_eq_getElem?_getD]
  cases h : [r0, r1, r2, r3, r4, r5, r6, r7][(n % 8).toNat]? with
  | none => simp [isU]
  | some v => exact hU _ (List.mem_of_getElem? h)
 refine calls_go (keep := K92) (nt := 197) (svs := [.agg (In.sv x), .agg [.val (.int .u64 r0), .val (.int .u64 r1), .val (.int .u64 r2), .val (.int .u64 r3), .val (.int .u64 r4), .val (.int .u64 r5), .val (.int .u64 r6), .val (.int .u64 r7)], .val (.int .i64 pc)]) Tryz.func92 x92 n92 (by simp) (by simp [IsL, Is, In.sv, In.val, In.cells, uV]) fun R hR => ?_
 (refine Y_go 600 ?_; dsimp only [X92, In.sv, numF, Nat.reduceAdd, zq9r, zq9q, Y_k, zq5f, zq8o, zq6n, Nat.reduceBEq, zq6k, zq7t, List.length_cons, List.length_nil, zq8l, zq73, zq8m, zq8k, zq0a, zq1z, List.nil_append, YK, zq8t, zq6l, List.cons_append, zq5e, List.map, zq6q, zq9i, normF, zq6m, zq86, zq8c, zq87, zq88, zq9y, t92n48, T92n48, zq5a, zq14, Nat.add_zero, zq5c, zq1o, nth, zq1k, dropL, takeL, zq19, zq18, zq9j])
 intro g1 g2 g3
 refine torow_rule 1 (xs := [.int .u64 r0, .int .u64 r1, .int .u64 r2, .int .u64 r3, .int .u64 r4, .int .u64 r5, .int .u64 r6, .int .u64 r7]) rfl rfl ?_
 dsimp only [setn]
 have fin : ∀ (e : Ef) F H, doB x [r0, r1, r2, r3, r4, r5, r6, r7] pc = e → denR H F [RV.cell 6 5 true] = some [Ef.val e] → RetG (cxOf Tryz.prog Tryz.f92 K92 T92 R) ⟨w, w.heap.size, [], 197, []⟩ { F := F, H := H } := by
  intro e F H he hd
  refine ret_rv (vs := [Ef.val e]) r92 rfl hd fun W hW => hR _ _ ⟨by rw [he]; rfl, hW.fresh'⟩
 refine call_val (vs := [.int .i64 x.op]) rfl (fun W hW => shape119 x.op W) fun v ⟨wd, hv⟩ => ⟨.tup [.agg [.val (.string wd), .bt, .bf, .bf, .val (.bool (hasL x.op 73))], .bt], by rw [hv, show isOp x.op = true by rw [ho]; rfl, show hasV x.op wd = .agg #[.string wd, .bool true, .bool false, .bool false, .bool (hasL x.op 73)] by rw [ho]; rfl]; simp [Is, IsL], ?_⟩
 (refine Y_go 600 ?_; dsimp only [zq8t, Y_k, zq4u, zq8o, zq6n, Nat.reduceBEq, zq6k, YK, zq5j, zq2f, nth, zq2e, zq6l, zq5e, List.length_cons, List.length_nil, Nat.reduceAdd, List.map, zq6s, zq6p, List.cons_append, List.nil_append, zq5d, zq7t, zq8l, zq75, zq8m, zq7h, zq7i, zq7g, zq8k, zq0a, zq1x, zq1t, dropL, takeL, zq1r, splice, setn, zq8s, zq9i, normF, zq6m, zq86, zq89, zq8c, zq87, zq88, zq9y, t92n47, T92n47, zq9r, zq9q, zq53, zq0m, Y_gk, zq6c, YR, zq5c, zq1o, zq1k, zq19, zq17, zq9l, YG])
 intro g4
 cases hl : legalB x with
 | false =>
  refine call_val (vs := [In.val x]) rfl (fun W hW => legal90 x W) fun v hv => ⟨.bf, by rw [hv, hl]; simp [Is], ?_⟩
  (refine Y_go 600 ?_; dsimp only [zq8t, Y_gk, zq6n, Nat.reduceBEq, zq6l, zq6k, zq6c, YR, zq53, zq8o, zq0n, YK, Y_k, zq4v, zq8p, zq6o, zq0c, zq4u, zq6a, YS, zq0b, zq9i, normF, zq6m, zq86, zq89, zq8c, zq87, zq88, zq9s, zq6f, YC, zq9y, t92n0, T92n0, zq9r, zq9q, zq5g, List.map, zq6q, zq22, zq25, zq5d, zq7t, List.length_cons, List.length_nil, Nat.reduceAdd, zq8l, zq73, zq8m, zq8k, zq0a, zq1x, nth, zq1t, dropL, takeL, zq1r, splice, setn, zq8s, zq9x])
  exact fin Ef.zero _ _ (by simp [doB, hl]) rfl
 | true =>
  refine call_val (vs := [In.val x]) rfl (fun W hW => legal90 x W) fun v hv => ⟨.bt, by rw [hv, hl]; simp [Is], ?_⟩
  have hll := hl
  simp only [legalB, Bool.and_eq_true] at hll
  obtain ⟨⟨⟨_, hla⟩, hlb⟩, hlc⟩ := hll
  have ua := hru x.a; have ub := hru x.b; have uc := hru x.c
  have hz : ¬ (0 ≤ pc ∧ pc < 1024) → doB x [r0, r1, r2, r3, r4, r5, r6, r7] pc = Ef.zero := fun h => by rw [doB, if_neg (fun k => h k.2)]
  have hd : 0 ≤ pc ∧ pc < 1024 → doB x [r0, r1, r2, r3, r4, r5, r6, r7] pc = doE x (rg [r0, r1, r2, r3, r4, r5, r6, r7] x.a) (rg [r0, r1, r2, r3, r4, r5, r6, r7] x.b) (rg [r0, r1, r2, r3, r4, r5, r6, r7] x.c) pc := fun hp => by rw [doB, if_pos ⟨hl, hp⟩]
  (refine Y_go 600 ?_; dsimp only [zq8t, Y_gk, zq6n, Nat.reduceBEq, zq6l, zq6k, zq6c, YR, zq53, zq8o, zq0m, YK, Y_k, zq4v, zq8p, zq6o, zq0c, zq4u, zq50, zq6q, zq04, zq92, zq9b, zq0i, zq9e, zq6e, YS, zq6a, zq0b, zq9i, normF, zq6m, zq86, zq89, zq8c, zq87, zq88, zq9s, zq6f, YC, zq9y, t92n0, T92n0, zq9r, zq9q, zq5g, List.map, zq22, zq25, zq5d, zq7t, List.length_cons, List.length_nil, Nat.reduceAdd, zq8l, zq73, zq8m, zq8k, zq0a, zq1x, nth, zq1t, dropL, takeL, zq1r, splice, setn, zq8s, zq9x, zq9h, zq6h, zq8x, zq9p, t92n46, T92n46, zq8a, t92n45, T92n45, zq5a, zq14, zq5c, zq1o, zq1k, zq19, zq18, t92n1, T92n1, zq59, zq06, zq10, zq1l, zq1c, List.nil_append, zq1b, t92n44, T92n44, zq6g, t92n43, T92n43, t92n42, T92n42, zq4w, zq0e, zq21, zq7u, zq20, zq5e, List.cons_append, t92n41, T92n41, Nat.add_zero, t92n39, T92n39, zq9t, zq9c, t92n4, T92n4, zq54, zq0p, zqa1, t92n40, T92n40, zq17, t92n38, T92n38, t92n5, T92n5, t92n37, T92n37, t92n6, T92n6, zq96, t92n36, T92n36, t92n7, T92n7, t92n35, T92n35, t92n8, T92n8, t92n34, T92n34, t92n9, T92n9, zq4y, zq0g, t92n33, T92n33, t92n10, T92n10, t92n32, T92n32, t92n11, T92n11, t92n12, T92n12, zq9j, t92n31, T92n31, t92n14, T92n14, t92n13, T92n13, t92n30, T92n30, t92n15, T92n15, t92n29, T92n29, t92n23, T92n23, t92n22, T92n22, zq02, t92n21, T92n21, t92n20, T92n20, t92n19, T92n19, zq9g, zq6d, zq69, zq6p, zq9d, zq6b, t92n18, T92n18, t92n17, T92n17, t92n16, T92n16, t92n28, T92n28, t92n24, T92n24, t92n27, T92n27, t92n25, T92n25, t92n26, T92n26])
  refine ⟨fun h => fin Ef.zero _ _ (hz (by have := of_decide_eq_true h; omega)) rfl, fun h => ⟨fun h2 => fin Ef.zero _ _ (hz (by have := of_decide_eq_true h2; omega)) rfl, fun h2 => ?_⟩⟩
  have h := of_decide_eq_false h
  have h2 := of_decide_eq_false h2
  have hp : 0 ≤ pc ∧ pc < 1024 := by omega
  have hd := hd hp
  rw [hd] at fin
  have ha := isRegI (n := x.a) (by have e : hasL x.op 65 = true := (by rw [ho]; rfl); simp only [e] at hla; simpa using hla)
  refine ⟨⟨ha.1, ha.2⟩, _, rgAt (r := [r0, r1, r2, r3, r4, r5, r6, r7]) rfl ha.1 ha.2, _, .to rfl (by omega) (by omega), fun g5 => ?_⟩
  all_goals simp only [ho]
  all_goals simp only [Int.reduceBEq, Int.reduceBNe, Int.reduceToNat, Nat.reduceMul, Nat.reduceAdd, Int.reduceLT, Int.reduceLE, Int.reduceGT, Int.reduceGE, ge_iff_le, gt_iff_lt, Int.reduceSub, Int.reduceAdd, decide_true, decide_false, Bool.false_eq_true, Bool.true_eq_false, Bool.not_true, Bool.not_false, reduceCtorEq, false_implies, true_implies, forall_const, true_and, and_true]
  ·refine ⟨_, convU _, ?_⟩
   refine fin (doE x (rg [r0, r1, r2, r3, r4, r5, r6, r7] x.a) (rg [r0, r1, r2, r3, r4, r5, r6, r7] x.b) (rg [r0, r1, r2, r3, r4, r5, r6, r7] x.c) pc) _ _ rfl ?_
   simp only [doE, ho]; rfl
set_option maxHeartbeats 40000000 in
theorem do92_c (x : In) (r0 r1 r2 r3 r4 r5 r6 r7 pc : Int) (w : World) (ho : x.op = 3 ∨ x.op = 11 ∨ x.op = 12 ∨ x.op = 14 ∨ x.op = 15 ∨ x.op = 16) (hU : ∀ n ∈ [r0, r1, r2, r3, r4, r5, r6, r7], isU n) : Walk92 x [r0, r1, r2, r3, r4, r5, r6, r7] pc w := by
 have hru : ∀ n, isU (rg [r0, r1, r2, r3, r4, r5, r6, r7] n) := by
  intro n
  unfold rg
  rw [List.getD_eq_getElem?_getD]
  cases h : [r0, r1, r2, r3, r4, r5, r6, r7][(n % 8).toNat]? with
  | none => simp [isU]
  | some v => exact hU _ (List.mem_of_getElem? h)
 refine calls_go (keep := K92) (nt := 197) (svs := [.agg (In.sv x), .agg [.val (.int .u64 r0), .val (.int .u64 r1), .val (.int .u64 r2), .val (.int .u64 r3), .val (.int .u64 r4), .val (.int .u64 r5), .val (.int .u64 r6), .val (.int .u64 r7)], .val (.int .i64 pc)]) Tryz.func92 x92 n92 (by simp) (by simp [IsL, Is, In.sv, In.val, In.cells, uV]) fun R hR => ?_
 (refine Y_go 600 ?_; dsimp only [X92, In.sv, numF, Nat.reduceAdd, zq9r, zq9q, Y_k, zq5f, zq8o, zq6n, Nat.reduceBEq, zq6k, zq7t, List.length_cons, List.length_nil, zq8l, zq73, zq8m, zq8k, zq0a, zq1z, List.nil_append, YK, zq8t, zq6l, List.cons_append, zq5e, List.map, zq6q, zq9i, normF, zq6m, zq86, zq8c, zq87, zq88, zq9y, t92n48, T92n48, zq5a, zq14, Nat.add_zero, zq5c, zq1o, nth, zq1k, dropL, takeL, zq19, zq18, zq9j])
 intro g1 g2 g3
 refine torow_rule 1 (xs := [.int .u64 r0, .int .u64 r1, .int .u64 r2, .int .u64 r3, .int .u64 r4, .int .u64 r5, .int .u64 r6, .int .u64 r7]) rfl rfl ?_
 dsimp only [setn]
 have fin : ∀ (e : Ef) F H, doB x [r0, r1, r2, r3, r4, r5, r6, r7] pc = e → denR H F [RV.cell 6 5 true] = some [Ef.val e] → RetG (cxOf Tryz.prog Tryz.f92 K92 T92 R) ⟨w, w.heap.size, [], 197, []⟩ { F := F, H := H } := by
  intro e F H he hd
  refine ret_rv (vs := [Ef.val e]) r92 rfl hd fun W hW => hR _ _ ⟨by rw [he]; rfl, hW.fresh'⟩
 refine call_val (vs := [.int .i64 x.op]) rfl (fun W hW => shape119 x.op W) fun v ⟨wd, hv⟩ => ⟨.tup [.agg [.val (.string wd), .bt, .bt, .bf, .val (.bool (hasL x.op 73))], .bt], by rw [hv, show isOp x.op = true by rcases ho with h | h | h | h | h | h <;> rw [h] <;> rfl, show hasV x.op wd = .agg #[.string wd, .bool true, .bool true, .bool false, .bool (hasL x.op 73)] by rcases ho with h | h | h | h | h | h <;> rw [h] <;> rfl]; simp [Is, IsL], ?_⟩
 (refine Y_go 600 ?_; dsimp only [zq8t, Y_k, zq4u, zq8o, zq6n, Nat.reduceBEq, zq6k, YK, zq5j, zq2f, nth, zq2e, zq6l, zq5e, List.length_cons, List.length_nil, Nat.reduceAdd, List.map, zq6s, zq6p, List.cons_append, List.nil_append, zq5d, zq7t, zq8l, zq75, zq8m, zq7h, zq7i, zq7g, zq8k, zq0a, zq1x, zq1t, dropL, takeL, zq1r, splice, setn, zq8s, zq9i, normF, zq6m, zq86, zq89, zq8c, zq87, zq88, zq9y, t92n47, T92n47, zq9r, zq9q, zq53, zq0m, Y_gk, zq6c, YR, zq5c, zq1o, zq1k, zq19, zq17, zq9l, YG])
 intro g4
 cases hl : legalB x with
 | false =>
  refine call_val (vs := [In.val x]) rfl (fun W hW => legal90 x W) fun v hv => ⟨.bf, by rw [hv, hl]; simp [Is], ?_⟩
  (refine Y_go 600 ?_; dsimp only [zq8t, Y_gk, zq6n, Nat.reduceBEq, zq6l, zq6k, zq6c, YR, zq53, zq8o, zq0n, YK, Y_k, zq4v, zq8p, zq6o, zq0c, zq4u, zq6a, YS, zq0b, zq9i, normF, zq6m, zq86, zq89, zq8c, zq87, zq88, zq9s, zq6f, YC, zq9y, t92n0, T92n0, zq9r, zq9q, zq5g, List.map, zq6q, zq22, zq25, zq5d, zq7t, List.length_cons, List.length_nil, Nat.reduceAdd, zq8l, zq73, zq8m, zq8k, zq0a, zq1x, nth, zq1t, dropL, takeL, zq1r, splice, setn, zq8s, zq9x])
  exact fin Ef.zero _ _ (by simp [doB, hl]) rfl
 | true =>
  refine call_val (vs := [In.val x]) rfl (fun W hW => legal90 x W) fun v hv => ⟨.bt, by rw [hv, hl]; simp [Is], ?_⟩
  have hll := hl
  simp only [legalB, Bool.and_eq_true] at hll
  obtain ⟨⟨⟨_, hla⟩, hlb⟩, hlc⟩ := hll
  have ua := hru x.a; have ub := hru x.b; have uc := hru x.c
  have hz : ¬ (0 ≤ pc ∧ pc < 1024) → doB x [r0, r1, r2, r3, r4, r5, r6, r7] pc = Ef.zero := fun h => by rw [doB, if_neg (fun k => h k.2)]
  have hd : 0 ≤ pc ∧ pc < 1024 → doB x [r0, r1, r2, r3, r4, r5, r6, r7] pc = doE x (rg [r0, r1, r2, r3, r4, r5, r6, r7] x.a) (rg [r0, r1, r2, r3, r4, r5, r6, r7] x.b) (rg [r0, r1, r2, r3, r4, r5, r6, r7] x.c) pc := fun hp => by rw [doB, if_pos ⟨hl, hp⟩]
  (refine Y_go 600 ?_; dsimp only [zq8t, Y_gk, zq6n, Nat.reduceBEq, zq6l, zq6k, zq6c, YR, zq53, zq8o, zq0m, YK, Y_k, zq4v, zq8p, zq6o, zq0c, zq4u, zq50, zq6q, zq04, zq92, zq9b, zq0i, zq9e, zq6e, YS, zq6a, zq0b, zq9i, normF, zq6m, zq86, zq89, zq8c, zq87, zq88, zq9s, zq6f, YC, zq9y, t92n0, T92n0, zq9r, zq9q, zq5g, List.map, zq22, zq25, zq5d, zq7t, List.length_cons, List.length_nil, Nat.reduceAdd, zq8l, zq73, zq8m, zq8k, zq0a, zq1x, nth, zq1t, dropL, takeL, zq1r, splice, setn, zq8s, zq9x, zq9h, zq6h, zq8x, zq9p, t92n46, T92n46, zq8a, t92n45, T92n45, zq5a, zq14, zq5c, zq1o, zq1k, zq19, zq18, t92n1, T92n1, zq59, zq06, zq10, zq1l, zq1c, List.nil_append, zq1b, t92n44, T92n44, t92n2, T92n2, t92n43, T92n43, zq6g, t92n42, T92n42, zq4w, zq0e, zq21, zq7u, zq20, zq5e, List.cons_append, t92n41, T92n41, Nat.add_zero, t92n39, T92n39, zq9t, zq9c, t92n4, T92n4, zq54, zq0p, zqa1, t92n40, T92n40, zq17, t92n38, T92n38, t92n5, T92n5, t92n37, T92n37, t92n6, T92n6, zq96, t92n36, T92n36, t92n7, T92n7, t92n35, T92n35, t92n8, T92n8, t92n34, T92n34, t92n9, T92n9, zq4y, zq0g, t92n33, T92n33, t92n10, T92n10, t92n32, T92n32, t92n11, T92n11, t92n12, T92n12, zq9j, t92n31, T92n31, t92n14, T92n14, t92n13, T92n13, t92n30, T92n30, t92n15, T92n15, t92n29, T92n29, t92n23, T92n23, t92n22, T92n22, zq02, t92n21, T92n21, t92n20, T92n20, t92n19, T92n19, zq9g, zq6d, zq69, zq6p, zq9d, zq6b, t92n18, T92n18, t92n17, T92n17, t92n16, T92n16, t92n28, T92n28, t92n24, T92n24, t92n27, T92n27, t92n25, T92n25, t92n26, T92n26])
  refine ⟨fun h => fin Ef.zero _ _ (hz (by have := of_decide_eq_true h; omega)) rfl, fun h => ⟨fun h2 => fin Ef.zero _ _ (hz (by have := of_decide_eq_true h2; omega)) rfl, fun h2 => ?_⟩⟩
  have h := of_decide_eq_false h
  have h2 := of_decide_eq_false h2
  have hp : 0 ≤ pc ∧ pc < 1024 := by omega
  have hd := hd hp
  rw [hd] at fin
  have ha := isRegI (n := x.a) (by have e : hasL x.op 65 = true := (by rcases ho with h | h | h | h | h | h <;> rw [h] <;> rfl); simp only [e] at hla; simpa using hla)
  have hb := isRegI (n := x.b) (by have e : hasL x.op 66 = true := (by rcases ho with h | h | h | h | h | h <;> rw [h] <;> rfl); simp only [e] at hlb; simpa using hlb)
  refine ⟨⟨ha.1, ha.2⟩, _, rgAt (r := [r0, r1, r2, r3, r4, r5, r6, r7]) rfl ha.1 ha.2, ⟨hb.1, hb.2⟩, _, rgAt (r := [r0, r1, r2, r3, r4, r5, r6, r7]) rfl hb.1 hb.2, _, .to rfl (by omega) (by omega), fun g5 => ?_⟩
  rcases ho with ho | ho | ho | ho | ho | ho
  all_goals simp only [ho]
  all_goals simp only [Int.reduceBEq, Int.reduceBNe, Int.reduceToNat, Nat.reduceMul, Nat.reduceAdd, Int.reduceLT, Int.reduceLE, Int.reduceGT, Int.reduceGE, ge_iff_le, gt_iff_lt, Int.reduceSub, Int.reduceAdd, decide_true, decide_false, Bool.false_eq_true, Bool.true_eq_false, Bool.not_true, Bool.not_false, reduceCtorEq, false_implies, true_implies, forall_const, true_and, and_true]
  ·refine fin (doE x (rg [r0, r1, r2, r3, r4, r5, r6, r7] x.a) (rg [r0, r1, r2, r3, r4, r5, r6, r7] x.b) (rg [r0, r1, r2, r3, r4, r5, r6, r7] x.c) pc) _ _ rfl ?_
   simp only [doE, ho]; rfl
  ·refine ⟨_, convU _, _, addU _ _, ?_⟩
   refine fin (doE x (rg [r0, r1, r2, r3, r4, r5, r6, r7] x.a) (rg [r0, r1, r2, r3, r4, r5, r6, r7] x.b) (rg [r0, r1, r2, r3, r4, r5, r6, r7] x.c) pc) _ _ rfl ?_
   simp only [doE, ho]; rfl
  ·refine ⟨_, .to rfl (by omega) (by omega), _, convU _, _, addU _ _, ?_⟩
   refine fin (doE x (rg [r0, r1, r2, r3, r4, r5, r6, r7] x.a) (rg [r0, r1, r2, r3, r4, r5, r6, r7] x.b) (rg [r0, r1, r2, r3, r4, r5, r6, r7] x.c) pc) _ _ rfl ?_
   simp only [doE, ho]; rfl
  ·refine ⟨_, .to rfl (by omega) (by omega), ?_⟩
   refine ⟨fun s => ?_, fun s => ?_⟩
   ·refine ⟨fun i1 => ?_, fun i1 => ⟨fun i2 => ?_, fun i2 => ?_⟩⟩
    ·have i1 := of_decide_eq_true i1
     exact fin Ef.zero _ _ (by simp only [doE, ho, goE, s]; simp; omega) rfl
    ·have i2 := of_decide_eq_true i2
     exact fin Ef.zero _ _ (by simp only [doE, ho, goE, s]; simp; omega) rfl
    ·have i1 := of_decide_eq_false i1; have i2 := of_decide_eq_false i2
     exact fin ⟨2, x.imm, 0, 0, 0⟩ _ _ (by simp only [doE, ho, goE, s]; simp; omega) rfl
   ·exact fin ⟨2, pc + 1, 0, 0, 0⟩ _ _ (by simp only [doE, ho, goE, s]; simp) rfl
  ·refine ⟨_, .to rfl (by omega) (by omega), ?_⟩
   refine ⟨fun s => ?_, fun s => ?_⟩
   ·refine ⟨fun i1 => ?_, fun i1 => ⟨fun i2 => ?_, fun i2 => ?_⟩⟩
    ·have i1 := of_decide_eq_true i1
     exact fin Ef.zero _ _ (by simp only [doE, ho, goE, s]; simp; omega) rfl
    ·have i2 := of_decide_eq_true i2
     exact fin Ef.zero _ _ (by simp only [doE, ho, goE, s]; simp; omega) rfl
    ·have i1 := of_decide_eq_false i1; have i2 := of_decide_eq_false i2
     exact fin ⟨2, x.imm, 0, 0, 0⟩ _ _ (by simp only [doE, ho, goE, s]; simp; omega) rfl
   ·exact fin ⟨2, pc + 1, 0, 0, 0⟩ _ _ (by simp only [doE, ho, goE, s]; simp) rfl
  ·refine ⟨_, .to rfl (by omega) (by omega), ?_⟩
   refine ⟨fun s => ?_, fun s => ?_⟩
   ·refine ⟨fun i1 => ?_, fun i1 => ⟨fun i2 => ?_, fun i2 => ?_⟩⟩
    ·have i1 := of_decide_eq_true i1
     exact fin Ef.zero _ _ (by simp only [doE, ho, goE, s]; simp; omega) rfl
    ·have i2 := of_decide_eq_true i2
     exact fin Ef.zero _ _ (by simp only [doE, ho, goE, s]; simp; omega) rfl
    ·have i1 := of_decide_eq_false i1; have i2 := of_decide_eq_false i2
     exact fin ⟨2, x.imm, 0, 0, 0⟩ _ _ (by simp only [doE, ho, goE, s]; simp; omega) rfl
   ·exact fin ⟨2, pc + 1, 0, 0, 0⟩ _ _ (by simp only [doE, ho, goE, s]; simp) rfl
set_option maxHeartbeats 40000000 in
theorem do92_d (x : In) (r0 r1 r2 r3 r4 r5 r6 r7 pc : Int) (w : World) (ho : x.op = 4 ∨ x.op = 5 ∨ x.op = 6 ∨ x.op = 7 ∨ x.op = 8 ∨ x.op = 9 ∨ x.op = 10) (hU : ∀ n ∈ [r0, r1, r2, r3, r4, r5, r6, r7], isU n) : Walk92 x [r0, r1, r2, r3, r4, r5, r6, r7] pc w := by
 have hru : ∀ n, isU (rg [r0, r1, r2, r3, r4, r5, r6, r7] n) := by
  intro n
  unfold rg
  rw [List.getD_eq_getElem?_getD]
  cases h : [r0, r1, r2, r3, r4, r5, r6, r7][(n % 8).toNat]? with
  | none => simp [isU]
  | some v => exact hU _ (List.mem_of_getElem? h)
 refine calls_go (keep := K92) (nt := 197) (svs := [.agg (In.sv x), .agg [.val (.int .u64 r0), .val (.int .u64 r1), .val (.int .u64 r2), .val (.int .u64 r3), .val (.int .u64 r4), .val (.int .u64 r5), .val (.int .u64 r6), .val (.int .u64 r7)], .val (.int .i64 pc)]) Tryz.func92 x92 n92 (by simp) (by simp [IsL, Is, In.sv, In.val, In.cells, uV]) fun R hR => ?_
 (refine Y_go 600 ?_; dsimp only [X92, In.sv, numF, Nat.reduceAdd, zq9r, zq9q, Y_k, zq5f, zq8o, zq6n, Nat.reduceBEq, zq6k, zq7t, List.length_cons, List.length_nil, zq8l, zq73, zq8m, zq8k, zq0a, zq1z, List.nil_append, YK, zq8t, zq6l, List.cons_append, zq5e, List.map, zq6q, zq9i, normF, zq6m, zq86, zq8c, zq87, zq88, zq9y, t92n48, T92n48, zq5a, zq14, Nat.add_zero, zq5c, zq1o, nth, zq1k, dropL, takeL, zq19, zq18, zq9j])
 intro g1 g2 g3
 refine torow_rule 1 (xs := [.int .u64 r0, .int .u64 r1, .int .u64 r2, .int .u64 r3, .int .u64 r4, .int .u64 r5, .int .u64 r6, .int .u64 r7]) rfl rfl ?_
 dsimp only [setn]
 have fin : ∀ (e : Ef) F H, doB x [r0, r1, r2, r3, r4, r5, r6, r7] pc = e → denR H F [RV.cell 6 5 true] = some [Ef.val e] → RetG (cxOf Tryz.prog Tryz.f92 K92 T92 R) ⟨w, w.heap.size, [], 197, []⟩ { F := F, H := H } := by
  intro e F H he hd
  refine ret_rv (vs := [Ef.val e]) r92 rfl hd fun W hW => hR _ _ ⟨by rw [he]; rfl, hW.fresh'⟩
 refine call_val (vs := [.int .i64 x.op]) rfl (fun W hW => shape119 x.op W) fun v ⟨wd, hv⟩ => ⟨.tup [.agg [.val (.string wd), .bt, .bt, .bt, .val (.bool (hasL x.op 73))], .bt], by rw [hv, show isOp x.op = true by rcases ho with h | h | h | h | h | h | h <;> rw [h] <;> rfl, show hasV x.op wd = .agg #[.string wd, .bool true, .bool true, .bool true, .bool (hasL x.op 73)] by rcases ho with h | h | h | h | h | h | h <;> rw [h] <;> rfl]; simp [Is, IsL], ?_⟩
 (refine Y_go 600 ?_; dsimp only [zq8t, Y_k, zq4u, zq8o, zq6n, Nat.reduceBEq, zq6k, YK, zq5j, zq2f, nth, zq2e, zq6l, zq5e, List.length_cons, List.length_nil, Nat.reduceAdd, List.map, zq6s, zq6p, List.cons_append, List.nil_append, zq5d, zq7t, zq8l, zq75, zq8m, zq7h, zq7g, zq8k, zq0a, zq1x, zq1t, dropL, takeL, zq1r, splice, setn, zq8s, zq9i, normF, zq6m, zq86, zq89, zq8c, zq87, zq88, zq9y, t92n47, T92n47, zq9r, zq9q, zq53, zq0m, Y_gk, zq6c, YR, zq5c, zq1o, zq1k, zq19, zq17, zq9l, YG])
 intro g4
 cases hl : legalB x with
 | false =>
  refine call_val (vs := [In.val x]) rfl (fun W hW => legal90 x W) fun v hv => ⟨.bf, by rw [hv, hl]; simp [Is], ?_⟩
  (refine Y_go 600 ?_; dsimp only [zq8t, Y_gk, zq6n, Nat.reduceBEq, zq6l, zq6k, zq6c, YR, zq53, zq8o, zq0n, YK, Y_k, zq4v, zq8p, zq6o, zq0c, zq4u, zq6a, YS, zq0b, zq9i, normF, zq6m, zq86, zq89, zq8c, zq87, zq88, zq9s, zq6f, YC, zq9y, t92n0, T92n0, zq9r, zq9q, zq5g, List.map, zq6q, zq22, zq25, zq5d, zq7t, List.length_cons, List.length_nil, Nat.reduceAdd, zq8l, zq73, zq8m, zq8k, zq0a, zq1x, nth, zq1t, dropL, takeL, zq1r, splice, setn, zq8s, zq9x])
  exact fin Ef.zero _ _ (by simp [doB, hl]) rfl
 | true =>
  refine call_val (vs := [In.val x]) rfl (fun W hW => legal90 x W) fun v hv => ⟨.bt, by rw [hv, hl]; simp [Is], ?_⟩
  have hll := hl
  simp only [legalB, Bool.and_eq_true] at hll
  obtain ⟨⟨⟨_, hla⟩, hlb⟩, hlc⟩ := hll
  have ua := hru x.a; have ub := hru x.b; have uc := hru x.c
  have hz : ¬ (0 ≤ pc ∧ pc < 1024) → doB x [r0, r1, r2, r3, r4, r5, r6, r7] pc = Ef.zero := fun h => by rw [doB, if_neg (fun k => h k.2)]
  have hd : 0 ≤ pc ∧ pc < 1024 → doB x [r0, r1, r2, r3, r4, r5, r6, r7] pc = doE x (rg [r0, r1, r2, r3, r4, r5, r6, r7] x.a) (rg [r0, r1, r2, r3, r4, r5, r6, r7] x.b) (rg [r0, r1, r2, r3, r4, r5, r6, r7] x.c) pc := fun hp => by rw [doB, if_pos ⟨hl, hp⟩]
  (refine Y_go 600 ?_; dsimp only [zq8t, Y_gk, zq6n, Nat.reduceBEq, zq6l, zq6k, zq6c, YR, zq53, zq8o, zq0m, YK, Y_k, zq4v, zq8p, zq6o, zq0c, zq4u, zq50, zq6q, zq04, zq92, zq9b, zq0i, zq9e, zq6e, YS, zq6a, zq0b, zq9i, normF, zq6m, zq86, zq89, zq8c, zq87, zq88, zq9s, zq6f, YC, zq9y, t92n0, T92n0, zq9r, zq9q, zq5g, List.map, zq22, zq25, zq5d, zq7t, List.length_cons, List.length_nil, Nat.reduceAdd, zq8l, zq73, zq8m, zq8k, zq0a, zq1x, nth, zq1t, dropL, takeL, zq1r, splice, setn, zq8s, zq9x, zq9h, zq6h, zq8x, zq9p, t92n46, T92n46, zq8a, t92n45, T92n45, zq5a, zq14, zq5c, zq1o, zq1k, zq19, zq18, t92n1, T92n1, zq59, zq06, zq10, zq1l, zq1c, List.nil_append, zq1b, t92n44, T92n44, t92n2, T92n2, t92n43, T92n43, t92n3, T92n3, t92n42, T92n42, zq4w, zq0e, zq21, zq7u, zq20, zq5e, List.cons_append, t92n41, T92n41, Nat.add_zero, t92n39, T92n39, zq9t, zq9c, t92n4, T92n4, zq54, zq0p, zqa1, t92n40, T92n40, zq17, t92n38, T92n38, t92n5, T92n5, t92n37, T92n37, t92n6, T92n6, zq96, t92n36, T92n36, t92n7, T92n7, t92n35, T92n35, t92n8, T92n8, t92n34, T92n34, t92n9, T92n9, zq4y, zq0g, t92n33, T92n33, t92n10, T92n10, t92n32, T92n32, t92n11, T92n11, t92n12, T92n12, zq9j, t92n31, T92n31, t92n14, T92n14, t92n13, T92n13, t92n30, T92n30, t92n15, T92n15, t92n29, T92n29, t92n23, T92n23, t92n22, T92n22, zq02, t92n21, T92n21, t92n20, T92n20, t92n19, T92n19, zq9g, zq6d, zq69, zq6p, zq9d, zq6b, zq6g, t92n18, T92n18, t92n17, T92n17, t92n16, T92n16, t92n28, T92n28, t92n24, T92n24, t92n27, T92n27, t92n25, T92n25, t92n26, T92n26])
  refine ⟨fun h => fin Ef.zero _ _ (hz (by have := of_decide_eq_true h; omega)) rfl, fun h => ⟨fun h2 => fin Ef.zero _ _ (hz (by have := of_decide_eq_true h2; omega)) rfl, fun h2 => ?_⟩⟩
  have h := of_decide_eq_false h
  have h2 := of_decide_eq_false h2
  have hp : 0 ≤ pc ∧ pc < 1024 := by omega
  have hd := hd hp
  rw [hd] at fin
  have ha := isRegI (n := x.a) (by have e : hasL x.op 65 = true := (by rcases ho with h | h | h | h | h | h | h <;> rw [h] <;> rfl); simp only [e] at hla; simpa using hla)
  have hb := isRegI (n := x.b) (by have e : hasL x.op 66 = true := (by rcases ho with h | h | h | h | h | h | h <;> rw [h] <;> rfl); simp only [e] at hlb; simpa using hlb)
  have hc := isRegI (n := x.c) (by have e : hasL x.op 67 = true := (by rcases ho with h | h | h | h | h | h | h <;> rw [h] <;> rfl); simp only [e] at hlc; simpa using hlc)
  refine ⟨⟨ha.1, ha.2⟩, _, rgAt (r := [r0, r1, r2, r3, r4, r5, r6, r7]) rfl ha.1 ha.2, ⟨hb.1, hb.2⟩, _, rgAt (r := [r0, r1, r2, r3, r4, r5, r6, r7]) rfl hb.1 hb.2, ⟨hc.1, hc.2⟩, _, rgAt (r := [r0, r1, r2, r3, r4, r5, r6, r7]) rfl hc.1 hc.2, _, .to rfl (by omega) (by omega), fun g5 => ?_⟩
  rcases ho with ho | ho | ho | ho | ho | ho | ho
  all_goals simp only [ho]
  all_goals simp only [Int.reduceBEq, Int.reduceBNe, Int.reduceToNat, Nat.reduceMul, Nat.reduceAdd, Int.reduceLT, Int.reduceLE, Int.reduceGT, Int.reduceGE, ge_iff_le, gt_iff_lt, Int.reduceSub, Int.reduceAdd, decide_true, decide_false, Bool.false_eq_true, Bool.true_eq_false, Bool.not_true, Bool.not_false, reduceCtorEq, false_implies, true_implies, forall_const, true_and, and_true]
  ·refine ⟨_, addU _ _, ?_⟩
   refine fin (doE x (rg [r0, r1, r2, r3, r4, r5, r6, r7] x.a) (rg [r0, r1, r2, r3, r4, r5, r6, r7] x.b) (rg [r0, r1, r2, r3, r4, r5, r6, r7] x.c) pc) _ _ rfl ?_
   simp only [doE, ho]; rfl
  ·refine ⟨_, subU _ _, ?_⟩
   refine fin (doE x (rg [r0, r1, r2, r3, r4, r5, r6, r7] x.a) (rg [r0, r1, r2, r3, r4, r5, r6, r7] x.b) (rg [r0, r1, r2, r3, r4, r5, r6, r7] x.c) pc) _ _ rfl ?_
   simp only [doE, ho]; rfl
  ·refine ⟨_, mulU _ _, ?_⟩
   refine fin (doE x (rg [r0, r1, r2, r3, r4, r5, r6, r7] x.a) (rg [r0, r1, r2, r3, r4, r5, r6, r7] x.b) (rg [r0, r1, r2, r3, r4, r5, r6, r7] x.c) pc) _ _ rfl ?_
   simp only [doE, ho]; rfl
  ·refine ⟨_, andU _ _, ?_⟩
   refine fin (doE x (rg [r0, r1, r2, r3, r4, r5, r6, r7] x.a) (rg [r0, r1, r2, r3, r4, r5, r6, r7] x.b) (rg [r0, r1, r2, r3, r4, r5, r6, r7] x.c) pc) _ _ rfl ?_
   simp only [doE, ho]; rfl
  ·refine ⟨_, xorU _ _, ?_⟩
   refine fin (doE x (rg [r0, r1, r2, r3, r4, r5, r6, r7] x.a) (rg [r0, r1, r2, r3, r4, r5, r6, r7] x.b) (rg [r0, r1, r2, r3, r4, r5, r6, r7] x.c) pc) _ _ rfl ?_
   simp only [doE, ho]; rfl
  ·refine call_val (vs := [.int .u64 (rg [r0, r1, r2, r3, r4, r5, r6, r7] x.b), .int .u64 (rg [r0, r1, r2, r3, r4, r5, r6, r7] x.c), .bool true]) rfl (fun W hW => shifted121 _ _ true W ub uc) fun v hv => ⟨.val (.int .u64 (w64 (rg [r0, r1, r2, r3, r4, r5, r6, r7] x.b * 2 ^ (rg [r0, r1, r2, r3, r4, r5, r6, r7] x.c % 64).toNat))), by rw [hv]; simp [Is], ?_⟩
   (refine Y_go 600 ?_; dsimp only [zq8t, Y_k, zq5a, zq8o, zq6n, Nat.reduceBEq, zq6l, zq6k, zq14, Nat.reduceAdd, YK, zq5d, zq7u, zq73, zq0a, zq1x, nth, zq1t, dropL, takeL, zq1r, splice, setn, zq8s, zq9i, normF, zq6m, zq86, zq89, zq8a, zq87, zq8c, zq88, zqa1, zq9y, t92n40, T92n40, zq9r, zq9q, zq5c, zq1o, zq1k, List.length_cons, List.length_nil, zq19, zq17, zq7t, zq8l, zq8m, zq8k, zq9x])
   refine fin (doE x (rg [r0, r1, r2, r3, r4, r5, r6, r7] x.a) (rg [r0, r1, r2, r3, r4, r5, r6, r7] x.b) (rg [r0, r1, r2, r3, r4, r5, r6, r7] x.c) pc) _ _ rfl ?_
   simp only [doE, ho]; rfl
  ·refine call_val (vs := [.int .u64 (rg [r0, r1, r2, r3, r4, r5, r6, r7] x.b), .int .u64 (rg [r0, r1, r2, r3, r4, r5, r6, r7] x.c), .bool false]) rfl (fun W hW => shifted121 _ _ false W ub uc) fun v hv => ⟨.val (.int .u64 (rg [r0, r1, r2, r3, r4, r5, r6, r7] x.b / 2 ^ (rg [r0, r1, r2, r3, r4, r5, r6, r7] x.c % 64).toNat)), by rw [hv]; simp [Is], ?_⟩
   (refine Y_go 600 ?_; dsimp only [zq8t, Y_k, zq5a, zq8o, zq6n, Nat.reduceBEq, zq6l, zq6k, zq14, Nat.reduceAdd, YK, zq5d, zq7u, zq73, zq0a, zq1x, nth, zq1t, dropL, takeL, zq1r, splice, setn, zq8s, zq9i, normF, zq6m, zq86, zq89, zq8a, zq87, zq8c, zq88, zqa1, zq9y, t92n40, T92n40, zq9r, zq9q, zq5c, zq1o, zq1k, List.length_cons, List.length_nil, zq19, zq17, zq7t, zq8l, zq8m, zq8k, zq9x])
   refine fin (doE x (rg [r0, r1, r2, r3, r4, r5, r6, r7] x.a) (rg [r0, r1, r2, r3, r4, r5, r6, r7] x.b) (rg [r0, r1, r2, r3, r4, r5, r6, r7] x.c) pc) _ _ rfl ?_
   simp only [doE, ho]; rfl
theorem do92_out (x : In) (r0 r1 r2 r3 r4 r5 r6 r7 pc : Int) (w : World) (ho : isOp x.op = false) : Walk92 x [r0, r1, r2, r3, r4, r5, r6, r7] pc w := by
 refine calls_go (keep := K92) (nt := 197) (svs := [.agg (In.sv x), .agg [.val (.int .u64 r0), .val (.int .u64 r1), .val (.int .u64 r2), .val (.int .u64 r3), .val (.int .u64 r4), .val (.int .u64 r5), .val (.int .u64 r6), .val (.int .u64 r7)], .val (.int .i64 pc)]) Tryz.func92 x92 n92 (by simp) (by simp [IsL, Is, In.sv, In.val, In.cells, uV]) fun R hR => ?_
 (refine Y_go 600 ?_; dsimp only [X92, In.sv, numF, Nat.reduceAdd, zq9r, zq9q, Y_k, zq5f, zq8o, zq6n, Nat.reduceBEq, zq6k, zq7t, List.length_cons, List.length_nil, zq8l, zq73, zq8m, zq8k, zq0a, zq1z, List.nil_append, YK, zq8t, zq6l, List.cons_append, zq5e, List.map, zq6q, zq9i, normF, zq6m, zq86, zq8c, zq87, zq88, zq9y, t92n48, T92n48, zq5a, zq14, Nat.add_zero, zq5c, zq1o, nth, zq1k, dropL, takeL, zq19, zq18, zq9j])
 intro g1 g2 g3
 refine call_val (vs := [.int .i64 x.op]) rfl (fun W hW => shape119 x.op W) fun v ⟨wd, hv⟩ => ⟨.tup [.agg [.val (.string wd), .val (.bool (hasL x.op 65)), .val (.bool (hasL x.op 66)), .val (.bool (hasL x.op 67)), .val (.bool (hasL x.op 73))], .bf], by rw [hv, ho]; simp [Is, IsL, hasV], ?_⟩
 (refine Y_go 600 ?_; dsimp only [zq8t, Y_k, zq4u, zq8o, zq6n, Nat.reduceBEq, zq6k, YK, zq5j, zq2f, nth, zq2e, zq6l, zq5e, List.length_cons, List.length_nil, Nat.reduceAdd, List.map, zq6s, zq6p, List.cons_append, List.nil_append, zq5d, zq7t, zq8l, zq75, zq8m, zq7g, zq8k, zq0a, zq1x, zq1t, dropL, takeL, zq1r, splice, setn, zq8s, zq9i, normF, zq6m, zq86, zq8a, zq8c, zq87, zq88, zq9y, t92n47, T92n47, zq9r, zq9q, zq53, zq0n, Y_gk, zq6a, YS, zq9l, zq4v, zq8p, zq6o, zq0b, zq89, zq9s, zq6f, YC, t92n0, T92n0, zq5g, zq6q, zq22, zq25, zq73, zq9x])
 intro g4
 refine ret_rv (vs := [Ef.val Ef.zero]) r92 rfl rfl fun W hW => hR _ _ ⟨?_, hW.fresh'⟩
 have e : doB x [r0, r1, r2, r3, r4, r5, r6, r7] pc = Ef.zero := by simp [doB, legalB, ho]
 rw [e]; rfl
end
theorem do92 (x : In) (r : List Int) (pc : Int) (w : World) (hr : r.length = 8) (hU : ∀ n ∈ r, isU n) : Walk92 x r pc w := by
 obtain ⟨r0, r1, r2, r3, r4, r5, r6, r7, rfl⟩ : ∃ r0 r1 r2 r3 r4 r5 r6 r7, r = [r0, r1, r2, r3, r4, r5, r6, r7] := by
  match r, hr with
  | [a, b, c, d, e, f, g, h], _ => exact ⟨a, b, c, d, e, f, g, h, rfl⟩
 cases ho : isOp x.op with
 | false => exact do92_out x _ _ _ _ _ _ _ _ pc w ho
 | true =>
  have h := isOp_cases ho
  by_cases h1 : x.op = 1 ∨ x.op = 13 ∨ x.op = 17 ∨ x.op = 18
  ·exact do92_a x _ _ _ _ _ _ _ _ pc w h1 hU
  ·by_cases h2 : x.op = 2
   ·exact do92_b x _ _ _ _ _ _ _ _ pc w h2 hU
   ·by_cases h3 : x.op = 3 ∨ x.op = 11 ∨ x.op = 12 ∨ x.op = 14 ∨ x.op = 15 ∨ x.op = 16
    ·exact do92_c x _ _ _ _ _ _ _ _ pc w h3 hU
    ·exact do92_d x _ _ _ _ _ _ _ _ pc w (by omega) hU
end Go.Proofs.YtlbiogokpadaoaaGreatDoor
