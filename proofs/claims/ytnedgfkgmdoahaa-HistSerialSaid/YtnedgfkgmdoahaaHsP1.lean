/- shuntlaw12.ev, alive, over. -/
import Derived.Test.YtnedgfkgmdoahaaHsJ7
import Derived.Test.YtnedgfkgmdoahaaHsPlain
import Derived.Test.YtnedgfkgmdoahaaHsW5
import Derived.Test.YtnedgfkgmdoahaaHsCodeS
set_option linter.unusedSimpArgs false
set_option linter.unusedVariables false
set_option linter.unnecessarySimpa false
namespace Go.Proofs.Ytnedgfkgmdoahaa
open Go Go.Sx Go.Hs
set_option maxRecDepth 100000
def evE (k co ad v : Int) : Ev := ⟨k, 0, co, 0, 0, 1 + 2 * co, ad, v, 0⟩
theorem ev49 (k co ad v : Int) (w : World) (hc : 0 ≤ co ∧ co ≤ 4) :
  CallsV Try.prog 49 [.int .i64 k, .int .i64 co, .int .i64 ad, .int .u64 v] w fun r w' => r = (evE k co ad v).val ∧ Fresh w w' := by
 refine calls_go (keep := K49) (nt := 17) (svs := [.val (.int .i64 k), .val (.int .i64 co), .val (.int .i64 ad), .val (.int .u64 v)]) Try.func49 x49 n49 (by simp) (by simp [IsL, Is]) fun R hR => ?_
 (refine Y_go 600 ?_; dsimp only [X49, numF, Nat.reduceAdd, zq9r, zq9q, Y_k, zq5e, List.length_nil, List.map, zq6q, List.nil_append, YK, zq8t, zq9i, normF, zq6n, Nat.reduceBEq, zq6l, zq6k, zq8c, zq87, zq9y, t49n0, T49n0, zq4u, zq8o, zq4w, zq8p, zq04, zq92, zq9b, zq0e, zq5g, zq21, zq7u, zq73, zq0a, dropL, takeL, zq20, splice, setn, zq22, zq25, zq5d, zq7t, List.length_cons, zq8l, zq8m, zq8k, zq1x, nth, zq1t, zq1r, zq8s, zq9x])
 refine fun g => ⟨2 * co, ArOk.mul64 (by omega) (by omega), 1 + 2 * co, ArOk.to (by omega) (by omega) (by omega), ?_⟩
 exact ret_rv (vs := [(evE k co ad v).val]) r49 rfl rfl fun W hW => hR _ _ ⟨rfl, hW.fresh'⟩
def aliveH : List Ev := [evE 1 0 0 0, evE 2 0 8 0, evE 3 0 8 5, evE 5 0 0 0, evE 7 1 8 5]
theorem alive_split : (splitL aliveH).isSome = true := by decide +kernel
theorem alive_jud : ∀ l, splitL aliveH = some l → frst (badAt aliveH l (begL [])) 5 = none := by
 have : (match splitL aliveH with | some l => (frst (badAt aliveH l (begL [])) 5).isNone | none => true) = true := by decide +kernel
 intro l hl
 rw [hl] at this
 simpa using this
theorem alive45 (w : World) : CallsV Try.prog 45 [] w fun v w' => v = .bool true ∧ Fresh w w' := by
 refine calls_go (keep := K45) (nt := 24) (svs := []) Try.func45 x45 n45 (by simp) (by simp [IsL, Is]) fun R hR => ?_
 (refine Y_go 600 ?_; dsimp only [X45, numF, zq9r, zq9q, Y_k, zq4u, zq8p, zq6p, YK, zq8t, zq9i, normF, zq6n, Nat.reduceBEq, zq6k, zq6l, zq6m, zq86, zq8a, zq9y, t45n1, T45n1, zq9j])
 refine call_val (vs := [.int .i64 1, .int .i64 0, .int .i64 0, .int .u64 0]) rfl (fun W hW => ev49 1 0 0 0 W (by omega)) fun v hv => ⟨.agg (evE 1 0 0 0).sv, by rw [hv]; exact Ev.is _ _, ?_⟩
 (refine Y_go 600 ?_; dsimp only [zq8t, zq9j])
 refine call_val (vs := [.int .i64 2, .int .i64 0, .int .i64 8, .int .u64 0]) rfl (fun W hW => ev49 2 0 8 0 W (by omega)) fun v hv => ⟨.agg (evE 2 0 8 0).sv, by rw [hv]; exact Ev.is _ _, ?_⟩
 (refine Y_go 600 ?_; dsimp only [zq8t, zq9j])
 refine call_val (vs := [.int .i64 3, .int .i64 0, .int .i64 8, .int .u64 5]) rfl (fun W hW => ev49 3 0 8 5 W (by omega)) fun v hv => ⟨.agg (evE 3 0 8 5).sv, by rw [hv]; exact Ev.is _ _, ?_⟩
 (refine Y_go 600 ?_; dsimp only [zq8t, zq9j])
 refine call_val (vs := [.int .i64 5, .int .i64 0, .int .i64 0, .int .u64 0]) rfl (fun W hW => ev49 5 0 0 0 W (by omega)) fun v hv => ⟨.agg (evE 5 0 0 0).sv, by rw [hv]; exact Ev.is _ _, ?_⟩
 (refine Y_go 600 ?_; dsimp only [zq8t, zq9j])
 refine call_val (vs := [.int .i64 7, .int .i64 1, .int .i64 8, .int .u64 5]) rfl (fun W hW => ev49 7 1 8 5 W (by omega)) fun v hv => ⟨.agg (evE 7 1 8 5).sv, by rw [hv]; exact Ev.is _ _, ?_⟩
 (refine Y_go 600 ?_; dsimp only [evE, Ev.sv, zq8t, Y_k, zq5h, List.map, zq6q, repL, List.cons_append, List.nil_append, zq23, Nat.reduceMul, zq8o, zq6n, Nat.reduceBEq, zq6l, zq6k, zq7t, List.length_cons, List.length_nil, Nat.reduceAdd, zq8l, zq73, zq8m, zq8k, zq0a, dropL, takeL, zq20, splice, setn, zq24, zq26, YK, zq9j])
 intro g
 refine call_val (R := fun v => v = .tuple #[.int .i64 0, .bool true, .int .i64 0]) (vs := [.slice (some ⟨g, 0, none⟩) 5 5, .slice none 0 0]) rfl (fun W hW => (judge40 (some ⟨g, 0, none⟩) none 5 0 aliveH [] W (hW.cellsAt (i := 0) (xs := cellsE aliveH) rfl rfl) (fun j u hj => by simp at hj) (by decide) (by decide)).mono ?_) fun v hv => ⟨.tup [.val (.int .i64 0), .bt, .val (.int .i64 0)], by rw [hv]; simp [Is, IsL], ?_⟩
 ·rintro v w' ⟨⟨h1, _⟩ | ⟨l, h1, h2⟩, h3⟩
  ·have := alive_split; rw [h1] at this; cases this
  ·refine ⟨?_, h3⟩
   rw [h2]
   unfold judR
   rw [show aliveH.length = 5 from rfl, alive_jud l h1]; rfl
 (refine Y_go 600 ?_; dsimp only [zq8t, Y_k, zq4u, zq8o, zq6n, Nat.reduceBEq, zq6k, YK, zq5j, zq2f, nth, zq2e, zq6l, zq9i, normF, zq87, zq89, zq8a, zq9y, t45n0, T45n0, zq9r, zq9q, zq50, zq8p, zq6q, zq04, zq92, zq9b, zq0i, zq9c, Y_gk, zq6d, YR, zq4v, zq6p, zq0b, zq69, zq9x, YS, zq0c, zq6b])
 repeat' first
  | (refine ⟨fun q => ?_, fun q => ?_⟩ <;> first | (exfalso; revert q; decide) | skip)
  | exact ret_rule (vs := [.bool true]) r45 rfl rfl fun W hW => hR _ _ ⟨rfl, hW.fresh'⟩
end Go.Proofs.Ytnedgfkgmdoahaa
