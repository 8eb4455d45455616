/- shuntlaw12.ev, alive, over. -/
import Derived.Test.YtnedgfkgmdoahaaHsJ7
import Derived.Test.YtnedgfkgmdoahaaHsPlain
import Derived.Test.YtnedgfkgmdoahaaHsW5
import Derived.Test.YtnedgfkgmdoahaaHsCodeS
set_option linter.unusedSimpArgs false
set_option linter.unusedVariables false
set_option linter.unnecessarySimpa false
namespace Go.Proofs.Ytnedgfkgmdoahaa
open Go Go.Sx Go.Hs
set_option maxRecDepth 100000
def evE (k co ad v : Int) : Ev := ⟨k, 0, co, 0, 0, 1 + 2 * co, ad, v, 0⟩
theorem ev49 (k co ad v : Int) (w : World) (hc : 0 ≤ co ∧ co ≤ 4) :
  CallsV Try.prog 49 [.int .i64 k, .int .i64 co, .int .i64 ad, .int .u64 v] w fun r w' => r = (evE k co ad v).val ∧ Fresh w w' := by
 refine calls_go (keep := K49) (nt := 17) (svs := [.val (.int .i64 k), .val (.int .i64 co), .val (.int .i64 ad), .val (.int .u64 v)]) Try.func49 x49 n49 (by simp) (by simp [IsL, Is]) fun R hR => ?_
 (refine Y_go 600 ?_; dsimp only [X49, numF, Nat.reduceAdd, zq9r, zq9q, Y_k, zq5e, List.length_nil, List.map, zq6q, List.nil_append, YK, zq8t, zq9i, normF, zq6n, Nat.reduceBEq, zq6l, zq6k, zq8c, zq87, zq9y, t49n0, T49n0, zq4u, zq8o, zq4w, zq8p, zq04, zq92, zq9b, zq0e, zq5g, zq21, zq7u, zq73, zq0a, dropL, takeL, zq20, splice, setn, zq22, zq25, zq5d, zq7t, List.length_cons, zq8l, zq8m, zq8k, zq1x, nth, zq1t, zq1r, zq8s, zq9x])
 refine fun g => ⟨2 * co, ArOk.mul64 (by omega) (by omega), 1 + 2 * co, ArOk.to (by omega) (by omega) (by omega), ?_⟩
 exact ret_rv (vs := [(evE k co ad v).val]) r49 rfl rfl fun W hW => hR _ _ ⟨rfl, hW.fresh'⟩
def aliveH : List Ev := [evE 1 0 0 0, evE 2 0 8 0, evE 3 0 8 5, evE 5 0 0 0, evE 7 1 8 5]
theorem alive_split : (splitL aliveH).isSome = true := by decide +kernel
theorem alive_jud : ∀ l, splitL aliveH = some l → frst (badAt aliveH l (begL [])) 5 = none := by
 have : (match splitL aliveH with | some l => (frst (badAt aliveH l (begL [])) 5).isNone | none => true) = true := by decide +kernel
 intro l hl
 rw [hl] at this
 simpa using this
theorem alive45 (w : World) : CallsV Try.prog 45 [] w fun v w' => v = .bool true ∧ Fresh w w' := by
 refine calls_go (keep := K45) (nt := 24) (svs := []) Try.func45 x45 n45 (by simp) (by simp [IsL, Is]) fun R hR => ?_
 (refine Y_go 600 ?_; dsimp only [X45, numF, zq9r, zq9q, Y_k, zq4u, zq8p, zq6p, YK, zq8t, zq9i, normF, zq6n, Nat.reduceBEq, zq6k, zq6l, zq6m, zq86, zq8a, zq9y, t45n1, T45n1, zq9j])
 refine call_val (vs := [.int .i64 1, .int .i64 0, .int .i64 0, .int .u64 0]) rfl (fun W hW => ev49 1 0 0 0 W (by omega)) fun v hv => ⟨.agg (evE 1 0 0 0).sv, by rw [hv]; exact Ev.is _ _, ?_⟩
 (refine Y_go 600 ?_; dsimp only [zq8t, zq9j])
 refine call_val (vs := [.int .i64 2, .int .i64 0, .int .i64 8, .int .u64 0]) rfl (fun W hW => ev49 2 0 8 0 W (by omega)) fun v hv => ⟨.agg (evE 2 0 8 0).sv, by rw [hv]; exact Ev.is _ _, ?_⟩
 (refine Y_go 600 ?_; dsimp only [zq8t, zq9j])
 refine call_val (vs := [.int .i64 3, .int .i64 0, .int .i64 8, .int .u64 5]) rfl (fun W hW => ev49 3 0 8 5 W (by omega)) fun v hv => ⟨.agg (evE 3 0 8 5).sv, by rw [hv]; exact Ev.is _ _, ?_⟩
 (refine Y_go 600 ?_; dsimp only [zq8t, zq9j])
 refine call_val (vs := [.int .i64 5, .int .i64 0, .int .i64 0, .int .u64 0]) rfl (fun W hW => ev49 5 0 0 0 W (by omega)) fun v hv => ⟨.agg (evE 5 0 0 0).sv, by rw [hv]; exact Ev.is _ _, ?_⟩
 (refine Y_go 600 ?_; dsimp only [zq8t, zq9j])
 refine call_val (vs := [.int .i64 7, .int .i64 1, .int .i64 8, .int .u64 5]) rfl (fun W hW => ev49 7 1 8 5 W (by omega)) fun v hv => ⟨.agg (evE 7 1 8 5).sv, by rw [hv]; exact Ev.is _ _, ?_⟩
 (refine Y_go 600 ?_; dsimp only [evE, Ev.sv, zq8t, Y_k, zq5h, List.map, zq6q, repL, List.cons_append, List.nil_append, zq23, Nat.reduceMul, zq8o, zq6n, Nat.reduceBEq, zq6l, zq6k, zq7t, List.length_cons, List.length_nil, Nat.reduceAdd, zq8l, zq73, zq8m, zq8k, zq0a, dropL, takeL, zq20, splice, setn, zq24, zq26, YK, zq9j])
 intro g
 refine call_val (R := fun v => v = .tuple #[.int .i64 0, .bool true, .int .i64 0]) (vs := [.slice (some ⟨g, 0, none⟩) 5 5, .slice none 0 0]) rfl (fun W hW => (judge40 (some ⟨g, 0, none⟩) none 5 0 aliveH [] W (hW.cellsAt (i := 0) (xs := cellsE aliveH) rfl rfl) (fun j u hj => by simp at hj) (by decide) (by decide)).mono ?_) fun v hv => ⟨.tup [.val (.int .i64 0), .bt, .val (.int .i64 0)], by rw [hv]; simp [Is, IsL], ?_⟩
 ·rintro v w' ⟨⟨h1, _⟩ | ⟨l, h1, h2⟩, h3⟩
  ·have := alive_split; rw [h1] at this; cases this
  ·refine ⟨?_, h3⟩
   rw [h2]
   unfold judR
   rw [show aliveH.length = 5 from rfl, alive_jud l h1]; rfl
 (refine Y_go 600 ?_; dsimp only [zq8t, Y_k, zq4u, zq8o, zq6n, Nat.reduceBEq, zq6k, YK, zq5j, zq2f, nth, zq2e, zq6l, zq9i, normF, zq87, zq89, zq8a, zq9y, t45n0, T45n0, zq9r, zq9q, zq50, zq8p, zq6q, zq04, zq92, zq9b, zq0i, zq9c, Y_gk, zq6d, YR, zq4v, zq6p, zq0b, zq69, zq9x, YS, zq0c, zq6b])
 repeat' first
  | (refine ⟨fun q => ?_, fun q => ?_⟩ <;> first | (exfalso; revert q; decide) | skip)
  | exact ret_rule (vs := [.bool true]) r45 rfl rfl fun W hW => hR _ _ ⟨rfl, hW.fresh'⟩
def endB (h : List Ev) : Bool := match splitL h with | some l => overL l | none => false
theorem split_len {h : List Ev} {l : List At} (hs : splitL h = some l) : l.length ≤ h.length := by
 unfold splitL at hs
 cases hq : sp h h.length with
 | none => rw [hq] at hs; cases hs
 | some s => rw [hq] at hs; injection hs with hs; subst hs; exact (sp_ok hq).len
theorem over47 (A : Option Addr) (c : Nat) (h : List Ev) (w : World) (hA : RowAt w A (cellsE h)) (hl : h.length ≤ 1000) :
  CallsV Try.prog 47 [.slice A h.length c] w fun v w' => v = .bool (endB h) ∧ Fresh w w' := by
 refine calls_go (keep := K47) (nt := 25) (svs := [.val (.slice A h.length c)]) Try.func47 x47 n47 (by simp) (by simp [IsL, Is]) fun R hR => ?_
 (refine Y_go 600 ?_; dsimp only [X47, numF, Nat.reduceAdd, zq9r, zq9q, Y_k, zq4u, zq8p, zq6p, YK, zq8t, zq9i, normF, zq6n, Nat.reduceBEq, zq6l, zq6k, zq6m, zq86, zq8a, zq87, zq9y, t47n6, T47n6, zq8o, zq9j])
 cases hs : splitL h with
 | none =>
  have he : endB h = false := by unfold endB; rw [hs]
  refine call_val (R := fun v => v = .tuple #[.slice none 0 0, .int .i64 120]) (vs := [.slice A h.length c]) rfl (fun W hW => (split31 A c h W (hA.keep hW.fresh') hl).mono ?_) fun v hv => ⟨.tup [.val (.slice none 0 0), .val (.int .i64 120)], by rw [hv]; simp [Is, IsL], ?_⟩
  ·rintro v W' (⟨_, h2, h3⟩ | ⟨z, _, _, h1, _⟩)
   ·exact ⟨h2, h3⟩
   ·rw [hs] at h1; cases h1
  (refine Y_go 600 ?_; dsimp only [zq8t, Y_k, zq4u, zq8o, zq6n, Nat.reduceBEq, zq6k, YK, zq5j, zq2f, nth, zq2e, zq6l, zq9i, normF, zq6m, zq86, zq87, zq8a, zq9y, t47n5, T47n5, zq9r, zq9q, zq8p, zq6q, zq9t, zq9v])
  refine loop_go (α := Nat) (fun i => i = 0) (fun _ => ⟨w, w.heap.size, [], 25, []⟩)
   (fun i => { F := [(0, .val (.slice A h.length c)), (3, .val (.slice none 0 0)), (4, .val (.int .i64 120)), (5, .val (.int .i64 i))], H := [] }) (fun i => 1 - i) (fun _ => rfl) ?start0 ?round0
  case start0 =>
   intro a W rep
   exact ⟨0, rfl, rep.le (by (simp only [setn, List.nil_append, List.cons_append, leF, leH_nil, leH_cons, leF_nil, lk, scp, scpL, scpO, resF, resH, resO, resV, resVL, nth, Nat.reduceBEq, Nat.reduceLT, decide_true, decide_false, List.length, List.length_cons, List.length_nil, Nat.reduceAdd, Bool.and_self, Bool.and_true, and_true, true_and, numF] <;> try simp)) (by (simp only [setn, List.nil_append, List.cons_append, leF, leH_nil, leH_cons, leF_nil, lk, scp, scpL, scpO, resF, resH, resO, resV, resVL, nth, Nat.reduceBEq, Nat.reduceLT, decide_true, decide_false, List.length, List.length_cons, List.length_nil, Nat.reduceAdd, Bool.and_self, Bool.and_true, and_true, true_and, numF] <;> try simp))⟩
  case round0 =>
   intro i hi I again
   subst hi
   (refine Y_go 600 ?_; dsimp only [zq9y, t47n3, T47n3, zq9r, zq9q, Y_k, zq4u, zq8o, zq6n, Nat.reduceBEq, zq6l, zq6k, YK, zq8t, zq55, zq0r, zq50, zq04, zq92, zq9b, zq0i, zq9e, zq9i, normF, zq6m, zq86, zq87, zq9s, zq6h, zq8x, YC, zq9p, t47n2, T47n2, zq9t, zq58, zq06, zq0w, zq5a, zq16, zq5c, zq1p, zq1c, List.nil_append, zq1b, zq18, zq8p, zq6q, zq89, t47n0, T47n0, zq6p, zq8a, zq9x, zqa1, t47n1, T47n1, zq4w, zq0e, zqa2, zq9u, popTo, zq6i, YP, t47n4, T47n4, zq9c])
   refine ⟨fun q => absurd q (by decide), fun _ => ?_⟩
   exact ret_rule (vs := [.bool false]) r47 rfl rfl fun W hW => hR _ _ ⟨by rw [he]; rfl, hW.fresh'⟩
 | some l =>
  have he : endB h = overL l := by unfold endB; rw [hs]
  have hll := split_len hs
  refine call_base (vs := [.slice A h.length c]) rfl (R := fun W v w' => ∃ (z : List (At × Hd)) (B : Option Addr) (bc : Nat), z.map (·.1) = l ∧ v = .tuple #[.slice B z.length bc, .int .i64 0] ∧ RowAt w' B (cellsTs z) ∧ Fresh W w') (fun W hW => (split31 A c h W (hA.keep hW.fresh') hl).mono ?_) (fun _ _ _ hr => by obtain ⟨_, _, _, _, _, _, hf⟩ := hr; exact hf) fun W v W' hW hr ov => ?_
  ·rintro v W' (⟨h1, _⟩ | ⟨z, B, bc, h1, h2, h3⟩)
   ·rw [hs] at h1; cases h1
   ·rw [hs] at h1; injection h1 with h1
    exact ⟨z, B, bc, h1.symm, h2, h3.rowAt' (i := 0) (t := 90) (ver := 0) (sz := 11) (n := z.length) (c := bc) rfl, h3.fresh'⟩
  obtain ⟨z, B, bc, hz, hv, hB, hf⟩ := hr
  refine ⟨.tup [.val (.slice B z.length bc), .val (.int .i64 0)], by rw [hv]; simp [Is, IsL], ?_⟩
  have f1 : Fresh w W' := hW.fresh'.tr hf
  have hzl : z.length ≤ 1000 := by have := congrArg List.length hz; simp at this; omega
  simp only [putF]
  show G _ ⟨W', W'.heap.size, [], 25, []⟩ _ _
  (refine Y_go 600 ?_; dsimp only [Y_k, zq4u, zq8o, zq6n, Nat.reduceBEq, zq6k, YK, zq8t, zq5j, zq2f, nth, zq2e, zq6l, zq9i, normF, zq6m, zq86, zq87, zq8a, zq9y, t47n5, T47n5, zq9r, zq9q, zq8p, zq6q, zq9t, zq9v])
  refine loop_go (α := Nat) (fun i => i ≤ z.length ∧ overL ((z.map (·.1)).take i) = true) (fun _ => ⟨W', W'.heap.size, [], 25, []⟩)
   (fun i => { F := [(0, .val (.slice A h.length c)), (3, .val (.slice B z.length bc)), (4, .val (.int .i64 0)), (5, .val (.int .i64 i))], H := [] }) (fun i => z.length - i) (fun _ => rfl) ?start ?round
  case start =>
   intro a W rep
   exact ⟨0, ⟨Nat.zero_le _, rfl⟩, rep.le (by (simp only [setn, List.nil_append, List.cons_append, leF, leH_nil, leH_cons, leF_nil, lk, scp, scpL, scpO, resF, resH, resO, resV, resVL, nth, Nat.reduceBEq, Nat.reduceLT, decide_true, decide_false, List.length, List.length_cons, List.length_nil, Nat.reduceAdd, Bool.and_self, Bool.and_true, and_true, true_and, numF] <;> try simp)) (by (simp only [setn, List.nil_append, List.cons_append, leF, leH_nil, leH_cons, leF_nil, lk, scp, scpL, scpO, resF, resH, resO, resV, resVL, nth, Nat.reduceBEq, Nat.reduceLT, decide_true, decide_false, List.length, List.length_cons, List.length_nil, Nat.reduceAdd, Bool.and_self, Bool.and_true, and_true, true_and, numF] <;> try simp))⟩
  case round =>
   intro i hi I again
   obtain ⟨hi, hov⟩ := hi
   (refine Y_go 600 ?_; dsimp only [zq9y, t47n3, T47n3, zq9r, zq9q, Y_k, zq4u, zq8o, zq6n, Nat.reduceBEq, zq6l, zq6k, YK, zq8t, zq55, zq0r, zq50, zq04, zq92, zq9b, zq0i, zq9e, zq9i, normF, zq6m, zq86, zq87, zq9s, zq6h, zq8x, YC, zq9p, t47n2, T47n2, zq9t, zq58, zq06, zq0w, zq5a, zq16, zq5c, zq1p, zq1c, List.nil_append, zq1b, zq18, zq8p, zq6q, zq89, t47n0, T47n0, zq6p, zq8a, zq9x, zqa1, t47n1, T47n1, zq4w, zq0e, zqa2, zq9u, popTo, zq6i, YP, t47n4, T47n4, zq9c])
   refine ⟨fun hlt => ?_, fun hge => ?_⟩
   ·have hlt : i < z.length := by have := of_decide_eq_true hlt; omega
    have cl : ∀ k v, (cellsT z[i].1 z[i].2)[k]? = some v → CellAt ⟨W', W'.heap.size, [], 25, []⟩ B ((i : Int).toNat * 11 + k) v := by
     intro k v hk
     rw [Int.toNat_natCast]
     exact hB.cell (by rw [cellsTs_get z hlt (List.getElem?_eq_some_iff.1 hk).1]; exact hk)
    have sB : B.isSome = true := hB.isSome (j := i * 11) (by rw [cellsTs_len]; omega)
    have hmem : z[i].1 ∈ l := by rw [← hz]; exact List.mem_map_of_mem (f := fun p : At × Hd => p.1) (List.getElem_mem hlt)
    refine ⟨⟨by omega, by omega, sB⟩, sB, _, cl 6 _ rfl, ?_⟩
    refine ⟨fun hneg => ?_, fun hnn => ?_⟩
    ·refine ret_rule (vs := [.bool false]) r47 rfl rfl fun W hW => hR _ _ ⟨?_, f1.tr hW.fresh'⟩
     rw [he]
     have hf : overL l = false := by
      unfold overL
      rw [List.all_eq_false]
      exact ⟨_, hmem, by have := of_decide_eq_true hneg; simp; omega⟩
     rw [hf]; rfl
    ·refine ⟨((i + 1 : Nat) : Int), ArOk.to (by omega) (by omega) (by omega), lend_rule fun a W rep => again (i + 1) ⟨hlt, ?_⟩ (by omega) a W (rep.le (by (simp only [setn, List.nil_append, List.cons_append, leF, leH_nil, leH_cons, leF_nil, lk, scp, scpL, scpO, resF, resH, resO, resV, resVL, nth, Nat.reduceBEq, Nat.reduceLT, decide_true, decide_false, List.length, List.length_cons, List.length_nil, Nat.reduceAdd, Bool.and_self, Bool.and_true, and_true, true_and, numF] <;> try simp)) (by (simp only [setn, List.nil_append, List.cons_append, leF, leH_nil, leH_cons, leF_nil, lk, scp, scpL, scpO, resF, resH, resO, resV, resVL, nth, Nat.reduceBEq, Nat.reduceLT, decide_true, decide_false, List.length, List.length_cons, List.length_nil, Nat.reduceAdd, Bool.and_self, Bool.and_true, and_true, true_and, numF] <;> try simp)))⟩
     rw [List.take_add_one, List.getElem?_eq_getElem (by simpa using hlt)]
     unfold overL at hov ⊢
     rw [List.all_append, hov]
     have := of_decide_eq_false hnn
     simp; omega
   ·have hge : ¬ i < z.length := by have := of_decide_eq_false hge; omega
    refine ret_rule (vs := [.bool true]) r47 rfl rfl fun W hW => hR _ _ ⟨?_, f1.tr hW.fresh'⟩
    rw [he, ← hz]
    rw [List.take_of_length_le (by simp; omega)] at hov
    rw [hov]; rfl
end Go.Proofs.Ytnedgfkgmdoahaa
