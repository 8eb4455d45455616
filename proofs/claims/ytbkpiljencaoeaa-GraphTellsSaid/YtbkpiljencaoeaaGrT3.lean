/- graph.committed: a history's attempts that are. -/
import Derived.Test.YtbkpiljencaoeaaGrT2
import Derived.Test.YtbkpiljencaoeaaGrCodeT
set_option linter.unusedSimpArgs false
set_option linter.unusedVariables false
set_option linter.unnecessarySimpa false
namespace Go.Proofs.Ytbkpiljencaoeaa
open Go Go.Sx Go.Hs
set_option maxRecDepth 100000
def AtsAt (w : World) (B : Option Addr) (z : List (At × Hd)) : Prop := RowAt w B (cellsTs z) ∧ ∀ p ∈ z, RowAt w p.2.lA (cellsPr p.1.loads) ∧ RowAt w p.2.sA (cellsPr p.1.stores)
def ComR (h : List Ev) (v : Value) (w' : World) : Prop :=
 (v = .tuple #[.slice none 0 0, .int .i64 120] ∧ (splitL h = none ∨ ∃ l, splitL h = some l ∧ 500 < (l.filter fun x => !outB x).length)) ∨
 ∃ (z : List (At × Hd)) (B : Option Addr) (bc : Nat) (l : List At), splitL h = some l ∧ z.map (·.1) = l.filter (fun x => !outB x) ∧ z.length ≤ 500 ∧ v = .tuple #[.slice B z.length bc, .int .i64 0] ∧ AtsAt w' B z
theorem keepT_map (z : List (At × Hd)) : (keepT z).map (·.1) = (z.map (·.1)).filter fun x => !outB x := by
 unfold keepT
 rw [List.filter_map]; rfl
theorem committed31 (A : Option Addr) (c : Nat) (h : List Ev) (w : World) (hA : RowAt w A (cellsE h)) (hl : h.length ≤ 1000) :
  CallsV Try.prog 31 [.slice A h.length c] w fun v w' => ComR h v w' ∧ Fresh w w' := by
 refine calls_go (keep := K31) (nt := 20) (svs := [.val (.slice A h.length c)]) Try.func31 x31 n31 (by simp) (by simp [IsL, Is]) fun R hR => ?_
 (refine Y_go 600 ?_; dsimp only [X31, numF, Nat.reduceAdd, zq9r, zq9q, Y_k, zq4u, zq8p, zq6u, YK, zq8t, zq6q, zq9i, normF, zq6n, Nat.reduceBEq, zq6l, zq6k, zq6m, zq86, zq87, zq9y, t31n6, T31n6, zq8o, zq9j])
 refine call_rule (vs := [.slice A h.length c]) rfl (R := fun W v w' => (splitL h = none ∧ v = .tuple #[.slice none 0 0, .int .i64 120] ∧ Fresh W w') ∨
   (∃ (z : List (At × Hd)) (B : Option Addr) (bc : Nat), splitL h = some (z.map (·.1)) ∧ v = .tuple #[.slice B z.length bc, .int .i64 0] ∧ HeapOk ⟨W, W.heap.size, [], 67, []⟩ ([.own 75 0 11 B z.length bc (cellsTs z)] ++ famQ 114 85 z) w')) (fun W hW => split31 A c h W (hA.keep hW.fresh') hl) fun W v W' hW hr => ?_
 rcases hr with ⟨hs, hv, hf⟩ | ⟨z, B, bc, hs, hv, hh⟩
 ·refine ⟨.tup [.val (.slice none 0 0), .val (.int .i64 120)], [], by rw [hv]; simp [Is, IsL], HExt.refl _, hW.freshK hf, ?_⟩
  dsimp only [zq8t]
  (refine Y_go 600 ?_; dsimp only [Y_k, zq4u, zq8o, zq6n, Nat.reduceBEq, zq6k, YK, zq8t, zq5j, zq2f, nth, zq2e, zq6l, zq9i, normF, zq6m, zq86, zq87, zq9y, t31n5, T31n5, zq9r, zq9q, zq50, zq8p, zq6q, zq04, zq92, zq9b, zq0i, zq9d, zq9s, zq6h, zq8x, YC, t31n0, T31n0, zq6u, zq89, zq9x, zq9p, t31n4, T31n4, zq9j])
  refine ⟨fun _ => ?_, fun hb => absurd hb (by decide)⟩
  exact ret_rule (vs := [.slice none 0 0, .int .i64 120]) r31 rfl rfl fun W hW => hR _ _ ⟨.inl ⟨rfl, .inl hs⟩, hW.fresh'⟩
 ·refine ⟨.tup [.own 0 0, .val (.int .i64 0)], [.own 75 0 11 B z.length bc (cellsTs z)] ++ famQ 114 85 z, ?_, HExt.nilTo _, (HeapOk.over0 hW 67 [] rfl).heap hh, ?_⟩
  ·rw [hv]; simp only [Is, IsL]; exact ⟨_, ⟨_, _, ⟨_, _, _, _, _, _, _, rfl, Nat.le_refl _, ⟨_, _, _, rfl⟩, fun _ => rfl⟩, ⟨_, _, rfl, rfl, rfl⟩, rfl⟩, rfl⟩
  dsimp only [zq8t, List.cons_append, List.nil_append]
  (refine Y_go 600 ?_; dsimp only [Y_k, zq4u, zq8o, zq6n, Nat.reduceBEq, zq6k, YK, zq8t, zq5j, zq2f, nth, zq2e, zq6l, zq9i, normF, zq6m, zq86, zq87, zq8f, zq9y, t31n5, T31n5, zq9r, zq9q, zq50, zq8p, zq6q, zq04, zq92, zq9b, zq0i, zq9d, zq9s, zq6h, zq8x, YC, t31n0, T31n0, zq6u, zq89, zq9x, zq9p, t31n4, T31n4, zq9j])
  refine ⟨fun hb => absurd hb (by decide), fun _ => ?_⟩
  have hzl : z.length ≤ 1000 := by
   unfold splitL at hs
   cases hq : sp h h.length with
   | none => rw [hq] at hs; cases hs
   | some s =>
    rw [hq] at hs; injection hs with hs
    have hs : s.out = z.map (·.1) := hs
    have h1 : z.length = s.out.length := by rw [hs, List.length_map]
    have h2 := (sp_ok hq).len
    omega
  have hkl := keepT_len z
  have hkm := keepT_map z
  refine call_rule (vs := [.slice B z.length bc, .func (.func 51) #[] #[]]) rfl (R := fun W v W' => v = .slice B (keepT z).length bc ∧ HExt ([.own 75 0 11 B z.length bc (cellsTs z)] ++ famQ 114 85 z) ([.own 75 1 11 B (keepT z).length bc (cellsTs (keepT z))] ++ famQ 114 85 z) ∧ HeapOk ⟨w, w.heap.size, [], 20, []⟩ ([.own 75 1 11 B (keepT z).length bc (cellsTs (keepT z))] ++ famQ 114 85 z) W') (fun W hW => delete50 hW (i := 0) rfl (by omega)) fun W v W' hW ⟨hv, hx, hW'⟩ => ⟨.own 0 1, _, ?_, hx, hW', ?_⟩
  ·rw [hv]; simp only [Is]
   exact ⟨75, 1, 11, B, (keepT z).length, bc, cellsTs (keepT z), rfl, Nat.le_refl _, ⟨_, _, _, rfl⟩, fun _ => rfl⟩
  dsimp only [zq8t, List.cons_append, List.nil_append]
  (refine Y_go 600 ?_; dsimp only [Y_k, zq4u, zq8o, zq6n, Nat.reduceBEq, zq6k, YK, zq8t, zq9i, normF, zq6l, zq6m, zq86, zq8a, zq87, zq8f, zq9y, t31n3, T31n3, zq9r, zq9q, zq55, zq0t, nth, zq09, zq08, zq0q, zq50, zq8p, zq6q, zq04, zq92, zq9b, zq0i, zq9g, zq9s, zq6h, zq8x, YC, t31n1, T31n1, zq6u, zq89, zq9x, zq9p, t31n2, T31n2])
  refine ⟨fun hb => ?_, fun hb => ?_⟩
  ·have hb := of_decide_eq_true hb
   exact ret_rule (vs := [.slice none 0 0, .int .i64 120]) r31 rfl rfl fun W hW => hR _ _ ⟨.inl ⟨rfl, .inr ⟨_, hs, by rw [← hkm, List.length_map]; omega⟩⟩, hW.fresh'⟩
  ·have hb := of_decide_eq_false hb
   refine ret_rule (vs := [.slice B (keepT z).length bc, .int .i64 0]) r31 rfl rfl fun W hW => hR _ _ ⟨.inr ⟨keepT z, B, bc, _, hs, hkm, by omega, rfl, hW.rowAt' (i := 0) rfl, fun p hp => ?_⟩, hW.fresh'⟩
   have hpz : p ∈ z := (List.mem_filter.1 hp).1
   have at' : ∀ e ∈ quad 114 85 p.1 p.2, ∃ i, nth (.own 75 1 11 B (keepT z).length bc (cellsTs (keepT z)) :: famQ 114 85 z) i = some e := fun e he => by
    have hm : e ∈ SO.own 75 1 11 B (keepT z).length bc (cellsTs (keepT z)) :: famQ 114 85 z := List.mem_cons_of_mem _ (famQ_mem 114 85 hpz e he)
    obtain ⟨i, hi⟩ := List.getElem?_of_mem hm
    exact ⟨i, by rw [nth_eq]; exact hi⟩
   obtain ⟨i1, hi1⟩ := at' (.own 85 0 2 p.2.lA p.1.loads.length p.2.lc (cellsPr p.1.loads)) (by simp [quad])
   obtain ⟨i2, hi2⟩ := at' (.own 85 0 2 p.2.sA p.1.stores.length p.2.sc (cellsPr p.1.stores)) (by simp [quad])
   exact ⟨hW.rowAt' hi1, hW.rowAt' hi2⟩
end Go.Proofs.Ytbkpiljencaoeaa
