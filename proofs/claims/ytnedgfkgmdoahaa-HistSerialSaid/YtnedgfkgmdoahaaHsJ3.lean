/- hist.memory's explains, goes. -/
import Derived.Test.YtnedgfkgmdoahaaHsJ1
import Derived.Test.YtnedgfkgmdoahaaHsCode
import Derived.Test.YtnedgfkgmdoahaaHsCodeJ
set_option linter.unusedSimpArgs false
set_option linter.unusedVariables false
set_option linter.unnecessarySimpa false
namespace Go.Proofs.Ytnedgfkgmdoahaa
open Go Go.Sx Go.Hs
set_option maxRecDepth 100000
theorem explains63_nil {E0 : Env} {W : World} (g : Nat) (m : List Pr) (e : Ev) (hW : HeapOk E0 [.map g (memV m)] W) :
  CallsV Try.prog 63 [.map (some g), e.val, .pointer none] W fun v W' => v = .bool (explB m e none) ∧ HeapOk E0 [.map g (memV m)] W' := by
 obtain ⟨b0, N, st, nt0, mk0⟩ := E0
 refine calls_lent (keep := K63) (nt := 36) (svs := [.mp 0, .agg e.sv, .val (.pointer none)]) Try.func63 x63 n63 (by simp) hW ?_ fun R hR => ?_
 ·simp only [IsL]
  exact ⟨_, _, by simp only [Is]; exact ⟨_, rfl, rfl⟩, ⟨_, _, Ev.is _ e, ⟨_, _, by simp only [Is], rfl, rfl⟩, rfl⟩, rfl⟩
 have fin : ∀ (v : Bool) (W : World) (r : List SO), v = explB m e none → HeapOk ⟨b0, N, st, 36, []⟩ ([.map g (memV m)] ++ r) W → R (.bool v) W := fun v W r hv hW => hR _ _ ⟨by rw [hv], HeapOk.env (E := ⟨b0, N, st, 36, []⟩) (E' := ⟨b0, N, st, nt0, mk0⟩) rfl rfl rfl (hW.pre (by simp [scpO]))⟩
 simp only [Ev.sv]
 (refine Y_go 600 ?_; dsimp only [X63, numF, Nat.reduceAdd, zq9r, zq9q, Y_k, zq5f, zq8o, zq6n, Nat.reduceBEq, zq6k, zq83, zq7p, zq0a, zq1z, List.length_cons, List.length_nil, List.cons_append, List.nil_append, YK, zq8t, zq6l, zq7t, zq8l, zq73, zq8m, zq8k, zq4u, zq8p, zq6p, zq9i, normF, zq6m, zq86, zq8a, zq8c, zq87, zq88, zq8h, zq9y, t63n2, T63n2, zq5t, zq3u, zq3q, zq9s, zq6h, zq8x, YC, t63n0, T63n0, zq5a, zq14, Nat.add_zero, zq5c, zq1o, nth, zq1k, dropL, takeL, zq19, zq18, zq50, zq6q, zq04, zq92, zq9b, zq0i, zq9d, Y_gk, zq6e, YS, zq6a, zq4v, zq6o, zq0b, zq89, zq9x, YR, zq6c, zq61, zq4h, zq00, zq4g, zq4f, zq9p, t63n1, T63n1, zq5i])
 intro g1 g2
 refine ⟨fun _ => ⟨fun h1 => ?_, fun h1 => ?_⟩, fun h => absurd h (by decide)⟩
 ·refine ret_rule (vs := [.bool true]) r63 rfl rfl fun W hW => fin true W [_, _] ?_ hW
  simp only [bne_iff_ne, ne_eq] at h1
  simp [explB, h1]
 ·refine ⟨memV_keys _, _, rfl, .val (.int .u64 (memF m e.addr)), by rw [mgetD_mem]; rfl, ?_⟩
  dsimp only [zq04, zq96, zq9b, zq0i, zq9c, YK, zq8t, Y_k, zq4v, zq8p, zq6o, zq8o, zq6n, Nat.reduceBEq, zq6k, zq6l, zq0c, zq4u, zq9i, normF, zq89, zq87, zq8c, zq88, zq8h, zq9x]
  refine ret_rule (vs := [.bool (memF m e.addr == e.value)]) r63 rfl rfl fun W hW => fin _ W [_, _] ?_ hW
  have h1 : e.kind = 7 := by simpa using h1
  simp [explB, h1]
theorem explains63_some {E0 : Env} {W : World} (g : Nat) (m : List Pr) (e : Ev) (x : At) (hd : Hd) (hl : x.loads.length ≤ 1000000) (hX : RowE E0 (some ⟨hd.g, 0, none⟩) (cellsA x hd)) (hL : RowE E0 hd.lA (cellsPr x.loads)) (hW : HeapOk E0 [.map g (memV m)] W) :
  CallsV Try.prog 63 [.map (some g), e.val, ptrH hd] W fun v W' => v = .bool (explB m e (some x)) ∧ HeapOk E0 [.map g (memV m)] W' := by
 obtain ⟨b0, N, st, nt0, mk0⟩ := E0
 refine calls_lent (keep := K63) (nt := 36) (svs := [.mp 0, .agg e.sv, .adr (some ⟨hd.g, 0, none⟩) 0]) Try.func63 x63 n63 (by simp) hW ?_ fun R hR => ?_
 ·simp only [IsL]
  exact ⟨_, _, by simp only [Is]; exact ⟨_, rfl, rfl⟩, ⟨_, _, Ev.is _ e, ⟨_, _, by simp only [Is]; rfl, rfl, rfl⟩, rfl⟩, rfl⟩
 have fin : ∀ (v : Bool) (W : World) (r : List SO), v = explB m e (some x) → HeapOk ⟨b0, N, st, 36, []⟩ ([.map g (memV m)] ++ r) W → R (.bool v) W := fun v W r hv hW => hR _ _ ⟨by rw [hv], HeapOk.env (E := ⟨b0, N, st, 36, []⟩) (E' := ⟨b0, N, st, nt0, mk0⟩) rfl rfl rfl (hW.pre (by simp [scpO]))⟩
 have hXE : RowE ⟨b0, N, st, 36, []⟩ (some ⟨hd.g, 0, none⟩) (cellsA x hd) := hX.env rfl rfl rfl
 have hLE : RowE ⟨b0, N, st, 36, []⟩ hd.lA (cellsPr x.loads) := hL.env rfl rfl rfl
 have c11 : CellAt ⟨b0, N, st, 36, []⟩ (some ⟨hd.g, 0, none⟩) 11 (.bool x.odd) := hXE.cell rfl
 have c7 : CellAt ⟨b0, N, st, 36, []⟩ (some ⟨hd.g, 0, none⟩) 7 (.slice hd.lA x.loads.length hd.lc) := hXE.cell rfl
 simp only [Ev.sv]
 (refine Y_go 600 ?_; dsimp only [X63, numF, Nat.reduceAdd, zq9r, zq9q, Y_k, zq5f, zq8o, zq6n, Nat.reduceBEq, zq6k, zq83, zq7p, zq0a, zq1z, List.length_cons, List.length_nil, List.cons_append, List.nil_append, YK, zq8t, zq6l, zq7t, zq8l, zq73, zq8m, zq8k, zq4u, zq8p, zq6p, zq9i, normF, zq6m, zq86, zq8a, zq8c, zq8d, zq88, zq8h, zq9y, t63n2, T63n2, zq5t, zq3t, zq3q, zq87, zq9s, zq6h, zq8x, YC, t63n0, T63n0, zq5a, zq14, Nat.add_zero, zq5c, zq1o, nth, zq1k, dropL, takeL, zq19, zq18, zq50, zq6q, zq04, zq92, zq9b, zq0i, zq9d, Y_gk, zq6e, YS, zq6a, zq4v, zq6o, zq0b, zq89, zq9x, YR, zq6c, zq61, zq4h, zq00, zq4g, zq4f, zq9p, t63n1, T63n1, zq5i, zq2b, zq16, zq1p, zq1d, zq1b, zq53, zq0o, zq6d, zq69, zq1g, zq5k, evL, zq9l, YG, zq6b, zq0c])
 intro g1 g2
 refine ⟨fun h => by simp at h, fun _ => ⟨rfl, rfl, x.odd, c11, fun h => ⟨rfl, rfl, rfl, _, _, _, c7, ?_⟩, fun h => ?_⟩⟩
 rotate_left
 ·have h : x.odd = true := by simpa using h
  refine ret_rule (vs := [.bool false]) r63 rfl rfl fun W hW => fin false W [_, _] ?_ hW
  simp [explB, h]
 have h : x.odd = false := by simpa using h
 refine call_lent (H1 := [.map g (memV m), .cells g1 132 [.mp 0]]) (r := [_]) (fun v H1' => v = .bool (x.loads.any (badP m)) ∧ H1' = [.map g (memV m), .cells g1 132 [.mp 0]]) rfl (vs := [.slice hd.lA x.loads.length hd.lc, .func (.func 75) #[] #[.pointer (some ⟨g1, 0, none⟩)]]) rfl (fun W hW hh => ?_) fun v H1' hv => ?_
 ·refine (any74 hd.lA hd.lc x.loads m g g1 hh (hLE.over (HeapOk.rebase (hW.pre (by simp [scpO]; rfl)) 0 []).2) hl).mono fun v W' hv => ⟨_, ⟨hv.1, rfl⟩, HExt.refl _, rfl, hv.2⟩
 obtain ⟨rfl, rfl⟩ := hv
 refine ⟨.val (.bool (x.loads.any (badP m))), by simp [Is], ?_⟩
 (refine Y_go 600 ?_; dsimp only [zq8t, List.cons_append, List.nil_append, Y_gk, zq6n, Nat.reduceBEq, zq6l, zq6k, zq69, YR, zq53, zq8o, zq0o, YK, Y_k, zq4v, zq8p, zq6p, zq0b, zq4u, zq9i, normF, zq8a, zq87, zq8c, zq8d, zq88, zq8h, zq9x])
 refine ret_rule (vs := [.bool (!x.loads.any (badP m))]) r63 rfl rfl fun W hW => fin _ W [_, _] ?_ hW
 simp only [explB, h]
 rw [List.not_any_eq_all_not]
 simp [badP, bne]
theorem goes64_nil {E0 : Env} {W : World} (g : Nat) (m : List Pr) (e : Ev) (hW : HeapOk E0 [.map g (memV m)] W) :
  CallsV Try.prog 64 [.map (some g), e.val, .pointer none] W fun v W' => v = .tuple #[] ∧ HeapOk E0 [.map g (memV (goesM m e none))] W' := by
 obtain ⟨b0, N, st, nt0, mk0⟩ := E0
 refine calls_lent (keep := K64) (nt := 39) (svs := [.mp 0, .agg e.sv, .val (.pointer none)]) Try.func64 x64 n64 (by simp) hW ?_ fun R hR => ?_
 ·simp only [IsL]
  exact ⟨_, _, by simp only [Is]; exact ⟨_, rfl, rfl⟩, ⟨_, _, Ev.is _ e, ⟨_, _, by simp only [Is], rfl, rfl⟩, rfl⟩, rfl⟩
 have fin : ∀ (m' : List Pr) (W : World) (r : List SO), m' = goesM m e none → HeapOk ⟨b0, N, st, 39, []⟩ ([.map g (memV m')] ++ r) W → R (.tuple #[]) W := fun m' W r hv hW => hR _ _ ⟨rfl, by rw [← hv]; exact HeapOk.env (E := ⟨b0, N, st, 39, []⟩) (E' := ⟨b0, N, st, nt0, mk0⟩) rfl rfl rfl (hW.pre (by simp [scpO]))⟩
 simp only [Ev.sv]
 (refine Y_go 600 ?_; dsimp only [X64, numF, Nat.reduceAdd, zq9r, zq9q, Y_k, zq5f, zq8o, zq6n, Nat.reduceBEq, zq6l, zq6k, zq7t, List.length_cons, List.length_nil, zq8l, zq73, zq8m, zq8k, zq0a, zq1z, List.cons_append, List.nil_append, YK, zq8t, zq9i, normF, zq6m, zq86, zq8c, zq87, zq88, zq8h, zq9y, t64n8, T64n8, zq4u, zq5t, zq3u, zq3q, zq9s, zq6h, zq8x, YC, t64n1, T64n1, zq5a, zq14, Nat.add_zero, zq5c, zq1o, nth, zq1k, dropL, takeL, zq19, zq18, zq50, zq8p, zq6q, zq04, zq92, zq9b, zq0i, zq9c, zq89, t64n0, T64n0, zq64, den, zq4j, zq00, zq4i, setn, zq8s, zq9x, zq9p, t64n7, T64n7, zq5i])
 intro g2
 refine ⟨fun _ => ⟨fun h1 => ?_, fun h1 => ?_⟩, fun h => absurd h (by decide)⟩
 ·refine ⟨memV_keys _, ?_⟩
  rw [mput_mem]
  refine ret_rule (vs := []) r64 rfl rfl fun W hW => fin (mPut m e.addr e.value) W [_] ?_ hW
  have h1 : e.kind = 8 := by simpa using h1
  simp [goesM, h1]
 ·refine ret_rule (vs := []) r64 rfl rfl fun W hW => fin m W [_] ?_ hW
  have h1 : ¬ e.kind = 8 := by simpa using h1
  simp [goesM, h1]
theorem goes64_some {E0 : Env} {W : World} (g : Nat) (m : List Pr) (e : Ev) (x : At) (hd : Hd) (hl : x.stores.length ≤ 1000000) (hX : RowE E0 (some ⟨hd.g, 0, none⟩) (cellsA x hd)) (hL : RowE E0 hd.sA (cellsPr x.stores)) (hW : HeapOk E0 [.map g (memV m)] W) :
  CallsV Try.prog 64 [.map (some g), e.val, ptrH hd] W fun v W' => v = .tuple #[] ∧ HeapOk E0 [.map g (memV (goesM m e (some x)))] W' := by
 obtain ⟨b0, N, st, nt0, mk0⟩ := E0
 refine calls_lent (keep := K64) (nt := 39) (svs := [.mp 0, .agg e.sv, .adr (some ⟨hd.g, 0, none⟩) 0]) Try.func64 x64 n64 (by simp) hW ?_ fun R hR => ?_
 ·simp only [IsL]
  exact ⟨_, _, by simp only [Is]; exact ⟨_, rfl, rfl⟩, ⟨_, _, Ev.is _ e, ⟨_, _, by simp only [Is]; rfl, rfl, rfl⟩, rfl⟩, rfl⟩
 have fin : ∀ (m' : List Pr) (W : World) (r : List SO), m' = goesM m e (some x) → HeapOk ⟨b0, N, st, 39, []⟩ ([.map g (memV m')] ++ r) W → R (.tuple #[]) W := fun m' W r hv hW => hR _ _ ⟨rfl, by rw [← hv]; exact HeapOk.env (E := ⟨b0, N, st, 39, []⟩) (E' := ⟨b0, N, st, nt0, mk0⟩) rfl rfl rfl (hW.pre (by simp [scpO]))⟩
 have hXE : RowE ⟨b0, N, st, 39, []⟩ (some ⟨hd.g, 0, none⟩) (cellsA x hd) := hX.env rfl rfl rfl
 have hLE : RowE ⟨b0, N, st, 39, []⟩ hd.sA (cellsPr x.stores) := hL.env rfl rfl rfl
 have c9 : CellAt ⟨b0, N, st, 39, []⟩ (some ⟨hd.g, 0, none⟩) 9 (.bool x.com) := hXE.cell rfl
 have c8 : CellAt ⟨b0, N, st, 39, []⟩ (some ⟨hd.g, 0, none⟩) 8 (.slice hd.sA x.stores.length hd.sc) := hXE.cell rfl
 simp only [Ev.sv]
 (refine Y_go 600 ?_; dsimp only [X64, numF, Nat.reduceAdd, zq9r, zq9q, Y_k, zq5f, zq8o, zq6n, Nat.reduceBEq, zq6l, zq6k, zq7t, List.length_cons, List.length_nil, zq8l, zq73, zq8m, zq8k, zq0a, zq1z, List.cons_append, List.nil_append, YK, zq8t, zq9i, normF, zq6m, zq86, zq8c, zq8d, zq88, zq8h, zq9y, t64n8, T64n8, zq4u, zq5t, zq3t, zq3q, zq87, zq9s, zq6h, zq8x, YC, t64n1, T64n1, zq5a, zq14, Nat.add_zero, zq5c, zq1o, nth, zq1k, dropL, takeL, zq19, zq18, zq50, zq8p, zq6q, zq04, zq92, zq9b, zq0i, zq9c, zq89, t64n0, T64n0, zq64, den, zq4j, zq00, zq4i, setn, zq8s, zq9x, zq9p, t64n7, T64n7, zq5i, zq2b, zq16, zq1p, zq1d, zq1b, zq8a, t64n6, T64n6, zq1g, zq55, zq0r, zq9t, zq9v, zqa3])
 intro g2
 refine ⟨fun h => by simp at h, fun _ => ⟨rfl, rfl, rfl, x.com, c9, fun h => ⟨rfl, rfl, rfl, _, _, _, c8, ?_⟩, fun h => ?_⟩⟩
 rotate_left
 ·refine end_rule (vs := []) r64 rfl rfl fun W hW => fin m W [_] ?_ hW
  have h : x.com = false := h
  simp [goesM, h]
 have h : x.com = true := h
 refine loop_go (α := Nat) (fun i => i ≤ x.stores.length) (fun _ => ⟨b0, N, st, 39, []⟩)
  (fun i => { F := [(0, .mp 0), (27, .val (.slice hd.sA x.stores.length hd.sc)), (28, .val (.int .i64 x.stores.length)), (29, .val (.int .i64 i))], H := [.map g (memV (putAll m (x.stores.take i)))] }) (fun i => x.stores.length - i) (fun _ => rfl) ?start ?round
 case start =>
  intro a' W rep
  exact ⟨0, Nat.zero_le _, rep.le (by (simp only [setn, List.nil_append, List.cons_append, leF, leH_nil, leH_cons, leF_nil, lk, scp, scpL, scpO, resF, resH, resO, resV, resVL, nth, Nat.reduceBEq, Nat.reduceLT, decide_true, decide_false, List.length, List.length_cons, List.length_nil, Nat.reduceAdd, Bool.and_self, Bool.and_true, and_true, true_and, numF] <;> try simp)) (by (simp only [setn, List.nil_append, List.cons_append, leF, leH_nil, leH_cons, leF_nil, lk, scp, scpL, scpO, resF, resH, resO, resV, resVL, nth, Nat.reduceBEq, Nat.reduceLT, decide_true, decide_false, List.length, List.length_cons, List.length_nil, Nat.reduceAdd, Bool.and_self, Bool.and_true, and_true, true_and, numF] <;> try simp); rfl)⟩
 case round =>
  intro i hi I hI
  have hi : i ≤ x.stores.length := hi
  (refine Y_go 600 ?_; dsimp only [zq9y, t64n5, T64n5, zq9r, zq9q, Y_k, zq50, zq8o, zq6n, Nat.reduceBEq, zq6l, zq6k, zq04, zq92, zq9b, zq0i, zq9e, YK, zq8t, zq9i, normF, zq6m, zq87, zq86, zq8h, t64n4, T64n4, zq9s, zq6h, zq8x, YC, zq9p, t64n3, T64n3, zq9t, zq58, zq06, zq0w, zq5c, zq1p, zq1c, List.nil_append, List.cons_append, zq1b, zq17, zq5e, List.length_cons, List.length_nil, Nat.reduceAdd, List.map, zq6q, zq5d, zq7t, zq8l, zq73, zq8m, zq8k, zq0a, zq1x, nth, zq1t, dropL, takeL, zq1r, splice, setn, zq8s, zq89, zq8c, t64n2, T64n2, zq4u, zq5a, zq14, Nat.add_zero, zq1o, zq1k, zq19, zq18, zq64, den, zq4j, zq00, zq4i, zqa1, zq4w, zq8p, zq0e, zqa2, zq9u, popTo, zq6i, YP, zqa3])
  refine ⟨fun h2 => ?_, fun h2 => ?_⟩
  ·have hlt : i < x.stores.length := by have := of_decide_eq_true h2; omega
   have cl : ∀ k v, (prV x.stores[i])[k]? = some v → CellAt ⟨b0, N, st, 39, []⟩ hd.sA (i * 2 + k) v := by
    intro k v hk
    have := (List.getElem?_eq_some_iff.1 hk).1
    exact hLE.cell (by rw [cellsPr_get x.stores hlt this]; exact hk)
   refine ⟨⟨by omega, by omega, hLE.isSome (j := i * 2) (by rw [cellsPr_len]; omega)⟩, _, cl 0 _ rfl, _, cl 1 _ rfl, fun g3 => ⟨memV_keys _, _, .add64 (by omega) (by omega), lend_rule fun a' W rep => hI (i + 1) hlt (by omega) a' W (rep.le ?_ ?_)⟩⟩
   ·(simp only [setn, List.nil_append, List.cons_append, leF, leH_nil, leH_cons, leF_nil, lk, scp, scpL, scpO, resF, resH, resO, resV, resVL, nth, Nat.reduceBEq, Nat.reduceLT, decide_true, decide_false, List.length, List.length_cons, List.length_nil, Nat.reduceAdd, Bool.and_self, Bool.and_true, and_true, true_and, numF] <;> try simp)
   ·rw [mput_mem, List.take_add_one, List.getElem?_eq_getElem hlt]
    simp only [Option.toList]
    rw [putAll_snoc]
    (simp only [setn, List.nil_append, List.cons_append, leF, leH_nil, leH_cons, leF_nil, lk, scp, scpL, scpO, resF, resH, resO, resV, resVL, nth, Nat.reduceBEq, Nat.reduceLT, decide_true, decide_false, List.length, List.length_cons, List.length_nil, Nat.reduceAdd, Bool.and_self, Bool.and_true, and_true, true_and, numF] <;> try simp)
  ·have hil : i = x.stores.length := by have := of_decide_eq_false h2; omega
   subst hil
   refine end_rule (vs := []) r64 rfl rfl fun W hW => fin _ W [] ?_ hW
   simp [goesM, h]
end Go.Proofs.Ytnedgfkgmdoahaa
namespace Go.Proofs.Ytnedgfkgmdoahaa
open Go Go.Sx Go.Hs
set_option maxRecDepth 100000
def ptV (z : List (At × Hd)) : List (Value × Value) := z.foldl (fun m p => if p.1.point ≥ 0 then mput m (.int .i64 p.1.point) (ptrH p.2) else m) []
theorem ptV_snoc (z : List (At × Hd)) (p : At × Hd) : ptV (z ++ [p]) = if p.1.point ≥ 0 then mput (ptV z) (.int .i64 p.1.point) (ptrH p.2) else ptV z := by
 unfold ptV; rw [List.foldl_append]; rfl
theorem mput_keyI : ∀ (m : List (Value × Value)) (a : Int) (u : Value), (∀ p ∈ m, keyIs (.int .i64) p.1 = true) → ∀ p ∈ mput m (.int .i64 a) u, keyIs (.int .i64) p.1 = true
 | [], a, u, _, p, hp => by
  simp only [mput, List.mem_singleton] at hp
  subst hp; rfl
 | (k, v) :: m, a, u, h, p, hp => by
  simp only [mput] at hp
  split at hp
  ·rcases List.mem_cons.1 hp with rfl | hp
   ·first | exact h _ (List.mem_cons_self) | rfl
   ·exact h _ (List.mem_cons_of_mem _ hp)
  ·rcases List.mem_cons.1 hp with rfl | hp
   ·exact h _ (List.mem_cons_self)
   ·exact mput_keyI m a u (fun q hq => h q (List.mem_cons_of_mem _ hq)) p hp
theorem ptV_keys (z : List (At × Hd)) : ∀ p ∈ ptV z, keyIs (.int .i64) p.1 = true := by
 have : ∀ (z : List (At × Hd)) (m : List (Value × Value)), (∀ p ∈ m, keyIs (.int .i64) p.1 = true) → ∀ p ∈ z.foldl (fun m p => if p.1.point ≥ 0 then mput m (.int .i64 p.1.point) (ptrH p.2) else m) m, keyIs (.int .i64) p.1 = true := by
  intro z
  induction z with
  | nil => exact fun m h => h
  | cons q z ih =>
   intro m h
   rw [List.foldl_cons]
   refine ih _ ?_
   split
   ·exact mput_keyI m _ _ h
   ·exact h
 exact this z [] (by simp)
theorem mget_put1 : ∀ (m : List (Value × Value)) (a b : Int) (u : Value), (∀ p ∈ m, keyIs (.int .i64) p.1 = true) → mget (mput m (.int .i64 a) u) (.int .i64 b) = if b = a then some u else mget m (.int .i64 b)
 | [], a, b, u, _ => by
  simp only [mput, mget, keyB_int]
  by_cases h : b = a
  ·subst h; simp
  ·have : (b == a) = false := by simpa using h
   simp [this, h]
 | (k, v) :: m, a, b, u, h => by
  have hk := h _ (List.mem_cons_self)
  obtain ⟨q, rfl⟩ : ∃ q, k = .int .i64 q := by
   cases k with
   | int kd q =>
    cases kd <;> first | exact ⟨q, rfl⟩ | cases hk
   | _ => simp [keyIs] at hk
  have ih := mget_put1 m a b u (fun q hq => h q (List.mem_cons_of_mem _ hq))
  simp only [mput, keyB_int]
  by_cases e : a = q
  ·subst e
   simp only [beq_self_eq_true, if_true, mget, keyB_int]
   by_cases h : b = a
   ·subst h; simp
   ·have : (b == a) = false := by simpa using h
    simp [this, h]
  ·have : (a == q) = false := by simpa using e
   simp only [this, Bool.false_eq_true, if_false, mget, keyB_int, ih]
   by_cases h : b = q
   ·subst h
    have e' : ¬ b = a := fun h => e h.symm
    simp [e']
   ·have : (b == q) = false := by simpa using h
    simp [this]
theorem mget_pt (z : List (At × Hd)) (n : Nat) : mget (ptV z) (.int .i64 n) = (z.reverse.find? fun p => p.1.point == (n : Int)).map fun p => ptrH p.2 := by
 obtain ⟨y, rfl⟩ : ∃ y, z = y.reverse := ⟨z.reverse, by simp⟩
 rw [List.reverse_reverse]
 induction y with
 | nil => rfl
 | cons p y ih =>
  rw [List.reverse_cons, ptV_snoc, List.find?_cons]
  split
  ·rw [mget_put1 _ _ _ _ (ptV_keys _), ih]
   by_cases h : (n : Int) = p.1.point
   ·rw [if_pos h]
    have : (p.1.point == (n : Int)) = true := by simp [h]
    rw [this]; rfl
   ·rw [if_neg h]
    have : (p.1.point == (n : Int)) = false := by simp; exact fun k => h k.symm
    rw [this]
  ·rename_i h
   have : (p.1.point == (n : Int)) = false := by simp; omega
   rw [this]; exact ih
theorem points62 (A B : Option Addr) (c bc n : Nat) (z : List (At × Hd)) (w : World) (hB : RowAt w B (ptrs z)) (hz : ∀ p ∈ z, RowAt w (some ⟨p.2.g, 0, none⟩) (cellsA p.1 p.2)) (hl : z.length ≤ 1000000) :
  CallsV Try.prog 62 [.slice A n c, .slice B z.length bc] w fun v w' => ∃ gh gm gb, v = .func (.func 73) #[] #[.pointer (some ⟨gh, 0, none⟩), .pointer (some ⟨gb, 0, none⟩)] ∧ HeapOk ⟨w, w.heap.size, [], 30, []⟩ [.cells gh 62 [.val (.slice A n c)], .map gm (ptV z), .cells gb 148 [.mp 1]] w' := by
 refine calls_go (keep := K62) (nt := 30) (svs := [.val (.slice A n c), .val (.slice B z.length bc)]) Try.func62 x62 n62 (by simp) (by simp [IsL, Is]) fun R hR => ?_
 (refine Y_go 600 ?_; dsimp only [X62, numF, Nat.reduceAdd, zq9r, zq9q, Y_k, zq5f, zq8o, zq6n, Nat.reduceBEq, zq6k, zq7u, zq77, zq0a, zq1z, List.length_nil, List.nil_append, YK, zq8t, zq4u, zq8p, zq6y, zq9i, normF, zq6l, zq6m, zq86, zq87, zq8c, zq9y, t62n7, T62n7, zq60, List.length_cons, List.cons_append, zq5e, List.map, zq6v, zq5d, zq83, zq7p, zq1x, nth, zq1t, dropL, takeL, zq1r, splice, setn, zq8s, t62n6, T62n6, zq55, zq0r, zq6q, zq9t, zq9v])
 intro g1 gm gb
 refine loop_go (α := Nat) (fun i => i ≤ z.length) (fun _ => ⟨w, w.heap.size, [], 30, []⟩)
  (fun i => { F := [(2, .ptr 0 0), (5, .ptr 2 0), (9, .val (.slice B z.length bc)), (10, .val (.int .i64 z.length)), (11, .val (.int .i64 i))], H := [.cells g1 62 [.val (.slice A n c)], .map gm (ptV (z.take i)), .cells gb 148 [.mp 1]] }) (fun i => z.length - i) (fun _ => rfl) ?start ?round
 case start =>
  intro a' W rep
  exact ⟨0, Nat.zero_le _, rep.le (by (simp only [setn, List.nil_append, List.cons_append, leF, leH_nil, leH_cons, leF_nil, lk, scp, scpL, scpO, resF, resH, resO, resV, resVL, nth, Nat.reduceBEq, Nat.reduceLT, decide_true, decide_false, List.length, List.length_cons, List.length_nil, Nat.reduceAdd, Bool.and_self, Bool.and_true, and_true, true_and, numF] <;> try simp)) (by (simp only [setn, List.nil_append, List.cons_append, leF, leH_nil, leH_cons, leF_nil, lk, scp, scpL, scpO, resF, resH, resO, resV, resVL, nth, Nat.reduceBEq, Nat.reduceLT, decide_true, decide_false, List.length, List.length_cons, List.length_nil, Nat.reduceAdd, Bool.and_self, Bool.and_true, and_true, true_and, numF] <;> try simp); rfl)⟩
 case round =>
  intro i hi I hI
  have hi : i ≤ z.length := hi
  (refine Y_go 600 ?_; dsimp only [zq9y, t62n4, T62n4, zq9r, zq9q, Y_k, zq50, zq8o, zq6n, Nat.reduceBEq, zq6l, zq6k, zq04, zq92, zq9b, zq0i, zq9e, YK, zq8t, zq9i, normF, zq6m, zq86, zq87, zq8c, t62n3, T62n3, zq9s, zq6h, zq8x, YC, zq9p, t62n2, T62n2, zq9t, zq58, zq06, zq0w, zq5c, zq1p, zq1f, List.nil_append, zq1b, zq18, zq4u, zq89, zq8d, t62n1, T62n1, zq5i, zq2b, zq5a, zq16, Nat.add_zero, Nat.reduceAdd, zq1c, zq8p, zq6q, zq9h, t62n0, T62n0, zq1o, nth, zq1k, List.length_cons, List.length_nil, dropL, takeL, zq19, zq64, den, zq4j, zq00, zq4i, setn, zq8s, zqa1, zq4w, zq0e, zqa2, zq8a, zq9u, popTo, zq6i, YP, t62n5, T62n5, zq5k, evL, zq8j, zq9x])
  refine ⟨fun h2 => ?_, fun h2 => ?_⟩
  ·have hlt : i < z.length := by have := of_decide_eq_true h2; omega
   have hzi : z[i]? = some z[i] := List.getElem?_eq_getElem hlt
   generalize z[i] = pz at hzi
   have cX := hz pz (List.mem_of_getElem? hzi)
   have c5 : CellAt ⟨w, w.heap.size, [], 30, []⟩ (some ⟨pz.2.g, 0, none⟩) 5 (.int .i64 pz.1.point) := cX.cell rfl
   have hptr : CellAt ⟨w, w.heap.size, [], 30, []⟩ B ((i : Int).toNat * 1) (.pointer (some ⟨pz.2.g, 0, none⟩)) := hB.cell (by rw [Int.toNat_natCast, Nat.mul_one]; exact ptrs_get hzi)
   have hBs : B.isSome = true := hB.isSome (j := i) (by simp [ptrs]; omega)
   have htk : z.take (i + 1) = z.take i ++ [pz] := by rw [List.take_add_one, hzi]; rfl
   have hadd : ArOk .add .i64 (i : Int) 1 ((i + 1 : Nat) : Int) := ArOk.to (by omega) (by omega) (by omega)
   refine ⟨⟨by omega, by omega, hBs⟩, _, hptr, ?_⟩
   refine ⟨rfl, rfl, rfl, _, c5, fun hp => ⟨rfl, rfl, rfl, _, c5, ptV_keys _, _, hadd, lend_rule fun a' W rep => hI (i + 1) hlt (by omega) a' W (rep.le ?_ ?_)⟩, fun hp => ⟨_, hadd, lend_rule fun a' W rep => hI (i + 1) hlt (by omega) a' W (rep.le ?_ ?_)⟩⟩
   ·(simp only [setn, List.nil_append, List.cons_append, leF, leH_nil, leH_cons, leF_nil, lk, scp, scpL, scpO, resF, resH, resO, resV, resVL, nth, Nat.reduceBEq, Nat.reduceLT, decide_true, decide_false, List.length, List.length_cons, List.length_nil, Nat.reduceAdd, Bool.and_self, Bool.and_true, and_true, true_and, numF] <;> try simp)
   ·rw [htk, ptV_snoc, if_pos (by simpa using hp)]
    (simp only [setn, List.nil_append, List.cons_append, leF, leH_nil, leH_cons, leF_nil, lk, scp, scpL, scpO, resF, resH, resO, resV, resVL, nth, Nat.reduceBEq, Nat.reduceLT, decide_true, decide_false, List.length, List.length_cons, List.length_nil, Nat.reduceAdd, Bool.and_self, Bool.and_true, and_true, true_and, numF] <;> try simp)
    rfl
   ·(simp only [setn, List.nil_append, List.cons_append, leF, leH_nil, leH_cons, leF_nil, lk, scp, scpL, scpO, resF, resH, resO, resV, resVL, nth, Nat.reduceBEq, Nat.reduceLT, decide_true, decide_false, List.length, List.length_cons, List.length_nil, Nat.reduceAdd, Bool.and_self, Bool.and_true, and_true, true_and, numF] <;> try simp)
   ·rw [htk, ptV_snoc, if_neg (by simpa using hp)]
    (simp only [setn, List.nil_append, List.cons_append, leF, leH_nil, leH_cons, leF_nil, lk, scp, scpL, scpO, resF, resH, resO, resV, resVL, nth, Nat.reduceBEq, Nat.reduceLT, decide_true, decide_false, List.length, List.length_cons, List.length_nil, Nat.reduceAdd, Bool.and_self, Bool.and_true, and_true, true_and, numF] <;> try simp)
  ·have hil : i = z.length := by have := of_decide_eq_false h2; omega
   subst hil
   refine ret_rule (vs := [.func (.func 73) #[] #[.pointer (some ⟨g1, 0, none⟩), .pointer (some ⟨gb, 0, none⟩)]]) r62 rfl rfl fun W hW => hR _ _ ⟨g1, gm, gb, rfl, ?_⟩
   rw [List.take_length] at hW
   exact hW
end Go.Proofs.Ytnedgfkgmdoahaa
