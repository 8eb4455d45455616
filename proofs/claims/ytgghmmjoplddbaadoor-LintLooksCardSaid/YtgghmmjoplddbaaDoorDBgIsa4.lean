/- The document's Legal. -/
import Derived.Test.YtgghmmjoplddbaaDoorDBgIsa3
import Derived.Test.YtgghmmjoplddbaaDoorDBgCodeIsa
import Derived.Test.YtgghmmjoplddbaaDoorIsaSpec
import Derived.Test.YtgghmmjoplddbaaDoorSxStill
set_option linter.unusedSimpArgs false
set_option linter.unusedVariables false
set_option linter.unnecessarySimpa false
namespace Go.Proofs.YtgghmmjoplddbaaDoor
open Go Go.Sx Go.Isa
set_option maxRecDepth 100000
theorem legal90 (x : In) (w : World) : CallsV Tryd.prog 35 [In.val x] w fun v w' => v = .bool (legalB x) ∧ Fresh w w' := by
 refine calls_go (keep := K35) (nt := 42) (svs := [.agg (In.sv x)]) Tryd.func35 x35 n35 (by simp) (by simp only [IsL]; exact ⟨_, _, In.is _ x, rfl, rfl⟩) fun R hR => ?_
 (refine Y_go 600 ?_; dsimp only [X35, In.sv, numF, Nat.reduceAdd, zq9q, zq9p, Y_k, zq5e, zq8n, zq6m, Nat.reduceBEq, zq6j, zq7s, List.length_cons, List.length_nil, zq8k, zq72, zq8l, zq8j, zq0a, zq1z, List.nil_append, YK, zq8s, zq4t, zq8o, zq6o, zq9h, normF, zq6k, zq6l, zq85, zq89, zq8b, zq87, zq9x, t35n1, T35n1, zq59, zq14, Nat.add_zero, zq5b, zq1o, nth, zq1k, dropL, takeL, zq19, zq18, zq9i])
 intro g
 refine call_val (vs := [.int .i64 x.op]) rfl (fun W hW => shape119 x.op W) fun v ⟨wd, hv⟩ => ⟨.tup [.agg [.val (.string wd), .val (.bool (hasL x.op 65)), .val (.bool (hasL x.op 66)), .val (.bool (hasL x.op 67)), .val (.bool (hasL x.op 73))], .val (.bool (isOp x.op))], by rw [hv]; simp [Is, IsL, hasV], ?_⟩
 (refine Y_go 600 ?_; dsimp only [zq8s, Y_k, zq4t, zq8n, zq6m, Nat.reduceBEq, zq6j, YK, zq5i, zq2f, nth, zq2e, zq6k, zq5d, List.length_cons, List.length_nil, Nat.reduceAdd, List.map, zq6r, zq6o, List.cons_append, List.nil_append, zq5c, zq7s, zq8k, zq74, zq8l, zq7f, zq8j, zq0a, zq1x, zq1t, dropL, takeL, zq1r, splice, setn, zq8r, zq9h, normF, zq86, zq8b, zq89, zq87, zq9x, t35n0, T35n0, zq9q, zq9p, Y_gk, zq6c, YR, zq59, zq14, zq68, zq5b, zq1o, zq1k, zq19, zq18, zq52, zq0o, zq6d, YS, zq69, zq9k, zq4u, zq8o, zq6n, zq0b, zq88, zq9w, zq6b, YG, zq6a, zq03, zq0c])
 intro g2
 have fin : ∀ (b : Bool) F H, legalB x = b → denAll H F [2] = some [.bool b] → RetG (cxOf Tryd.prog Tryd.f35 K35 T35 R) ⟨w, w.heap.size, [], 42, []⟩ { F := F, H := H } := by
  intro b F H hb hd
  refine ret_rule (vs := [.bool b]) r35 rfl hd fun W hW => hR _ _ ⟨by rw [hb]; rfl, hW.fresh'⟩
 refine ⟨fun h0 => ?_, fun h0 => ?_⟩
 rotate_left
 ·exact fin false _ _ (by simp [legalB, h0]) rfl
 ·refine ⟨fun h1 => ?_, fun h1 => ?_⟩
  ·refine ⟨fun h2 => ?_, fun h2 => ?_⟩
   ·refine ⟨fun h3 => ?_, fun h3 => ?_⟩
    ·exact fin true _ _ (by simp_all [legalB]) rfl
    ·refine call_val (vs := [.int .i64 x.c]) rfl (fun W hW => reg120 x.c W) fun v hv => ⟨.val (.bool (isReg x.c)), by rw [hv]; simp [Is], ?_⟩
     (refine Y_go 600 ?_; dsimp only [zq8s, Y_gk, zq6m, Nat.reduceBEq, zq6k, zq6j, zq68, YR, zq4u, zq8o, zq6n, zq8n, zq0c, YK, Y_k, zq6o, zq0b, zq4t, zq9h, normF, zq86, zq8b, zq87, zq9w])
     exact fin (isReg x.c) _ _ (by simp_all [legalB]) rfl
   ·refine call_val (vs := [.int .i64 x.b]) rfl (fun W hW => reg120 x.b W) fun v hv => ⟨.val (.bool (isReg x.b)), by rw [hv]; simp [Is], ?_⟩
    (refine Y_go 600 ?_; dsimp only [zq8s, Y_gk, zq6m, Nat.reduceBEq, zq6k, zq6j, zq68, YR, zq4u, zq8o, zq6n, zq8n, zq0c, YK, Y_k, zq6o, zq0b, zq4t, zq6c, zq59, zq14, Nat.reduceAdd, zq5b, zq1o, nth, zq1k, List.length_cons, List.length_nil, dropL, takeL, zq19, zq18, zq52, zq0o, zq6d, YS, zq69, zq9k, zq9h, normF, zq86, zq8b, zq88, zq87, zq9w, zq6b, YG, zq6a, zq03, zq89])
    refine ⟨fun e2 => ?_, fun e2 => ?_⟩
    ·refine ⟨fun h3 => ?_, fun h3 => ?_⟩
     ·exact fin true _ _ (by simp_all [legalB]) rfl
     ·refine call_val (vs := [.int .i64 x.c]) rfl (fun W hW => reg120 x.c W) fun v hv => ⟨.val (.bool (isReg x.c)), by rw [hv]; simp [Is], ?_⟩
      (refine Y_go 600 ?_; dsimp only [zq8s, Y_gk, zq6m, Nat.reduceBEq, zq6k, zq6j, zq68, YR, zq4u, zq8o, zq6n, zq8n, zq0c, YK, Y_k, zq6o, zq0b, zq4t, zq9h, normF, zq86, zq8b, zq87, zq9w])
      exact fin (isReg x.c) _ _ (by simp_all [legalB]) rfl
    ·exact fin false _ _ (by simp_all [legalB]) rfl
  ·refine call_val (vs := [.int .i64 x.a]) rfl (fun W hW => reg120 x.a W) fun v hv => ⟨.val (.bool (isReg x.a)), by rw [hv]; simp [Is], ?_⟩
   (refine Y_go 600 ?_; dsimp only [zq8s, Y_gk, zq6m, Nat.reduceBEq, zq6k, zq6j, zq68, YR, zq4u, zq8o, zq6n, zq8n, zq0c, YK, Y_k, zq6o, zq0b, zq4t, zq6c, zq59, zq14, Nat.reduceAdd, zq5b, zq1o, nth, zq1k, List.length_cons, List.length_nil, dropL, takeL, zq19, zq18, zq52, zq0o, zq6d, YS, zq69, zq9k, zq9h, normF, zq86, zq8b, zq88, zq87, zq9w, zq6b, YG, zq6a, zq03, zq89])
   refine ⟨fun e1 => ?_, fun e1 => ?_⟩
   ·refine ⟨fun h2 => ?_, fun h2 => ?_⟩
    ·refine ⟨fun h3 => ?_, fun h3 => ?_⟩
     ·exact fin true _ _ (by simp_all [legalB]) rfl
     ·refine call_val (vs := [.int .i64 x.c]) rfl (fun W hW => reg120 x.c W) fun v hv => ⟨.val (.bool (isReg x.c)), by rw [hv]; simp [Is], ?_⟩
      (refine Y_go 600 ?_; dsimp only [zq8s, Y_gk, zq6m, Nat.reduceBEq, zq6k, zq6j, zq68, YR, zq4u, zq8o, zq6n, zq8n, zq0c, YK, Y_k, zq6o, zq0b, zq4t, zq9h, normF, zq86, zq8b, zq87, zq9w])
      exact fin (isReg x.c) _ _ (by simp_all [legalB]) rfl
    ·refine call_val (vs := [.int .i64 x.b]) rfl (fun W hW => reg120 x.b W) fun v hv => ⟨.val (.bool (isReg x.b)), by rw [hv]; simp [Is], ?_⟩
     (refine Y_go 600 ?_; dsimp only [zq8s, Y_gk, zq6m, Nat.reduceBEq, zq6k, zq6j, zq68, YR, zq4u, zq8o, zq6n, zq8n, zq0c, YK, Y_k, zq6o, zq0b, zq4t, zq6c, zq59, zq14, Nat.reduceAdd, zq5b, zq1o, nth, zq1k, List.length_cons, List.length_nil, dropL, takeL, zq19, zq18, zq52, zq0o, zq6d, YS, zq69, zq9k, zq9h, normF, zq86, zq8b, zq88, zq87, zq9w, zq6b, YG, zq6a, zq03, zq89])
     refine ⟨fun e2 => ?_, fun e2 => ?_⟩
     ·refine ⟨fun h3 => ?_, fun h3 => ?_⟩
      ·exact fin true _ _ (by simp_all [legalB]) rfl
      ·refine call_val (vs := [.int .i64 x.c]) rfl (fun W hW => reg120 x.c W) fun v hv => ⟨.val (.bool (isReg x.c)), by rw [hv]; simp [Is], ?_⟩
       (refine Y_go 600 ?_; dsimp only [zq8s, Y_gk, zq6m, Nat.reduceBEq, zq6k, zq6j, zq68, YR, zq4u, zq8o, zq6n, zq8n, zq0c, YK, Y_k, zq6o, zq0b, zq4t, zq9h, normF, zq86, zq8b, zq87, zq9w])
       exact fin (isReg x.c) _ _ (by simp_all [legalB]) rfl
     ·exact fin false _ _ (by simp_all [legalB]) rfl
   ·exact fin false _ _ (by simp_all [legalB]) rfl
end Go.Proofs.YtgghmmjoplddbaaDoor
namespace Go.Proofs.YtgghmmjoplddbaaDoor
open Go Go.Sx Go.Isa
set_option maxRecDepth 100000
theorem oneI (l : List In) : ∀ u ∈ cellsI l, u.oneCell' = true := by
 intro u hu
 simp only [cellsI, In.cells, List.mem_flatMap, List.mem_cons, List.not_mem_nil, or_false] at hu
 obtain ⟨x, _, rfl | rfl | rfl | rfl | rfl⟩ := hu <;> rfl
theorem cellI {w : World} {A : Option Addr} {l : List In} {nt i : Nat} (h : RowAt w A (cellsI l)) (hi : i < l.length) {k : Nat} {v : Value} (hk : (l[i]).cells[k]? = some v) : CellAt ⟨w, w.heap.size, [], nt, []⟩ A (i * 5 + k) v :=
 h.cell (by rw [cellsI_get l hi (List.getElem?_eq_some_iff.1 hk).1]; exact hk)
theorem someI {w : World} {A : Option Addr} {l : List In} {i : Nat} (h : RowAt w A (cellsI l)) (hi : i < l.length) : A.isSome = true := h.isSome (j := i * 5) (by rw [cellsI_len]; omega)
end Go.Proofs.YtgghmmjoplddbaaDoor
