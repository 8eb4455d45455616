/- hist: an attempt hears an event. -/
import Derived.Test.YtbkpiljencaoeaaGHsW1
import Derived.Test.YtbkpiljencaoeaaGHsCode
set_option linter.unusedSimpArgs false
set_option linter.unusedVariables false
set_option linter.unnecessarySimpa false
namespace Go.Proofs.Ytbkpiljencaoeaa
open Go Go.Sx Go.Hs
set_option maxRecDepth 100000
def svA (x : At) : List SV := [.val (.int .i64 x.core), .val (.int .i64 x.block), .val (.int .i64 x.tr), .val (.int .i64 x.lane), .val (.int .i64 x.frm), .val (.int .i64 x.point), .val (.int .i64 x.to), .own 2 0, .own 3 0, .val (.bool x.com), .val (.int .i64 x.code), .val (.bool x.odd), .mp 1]
def quadS (x : At) (h : Hd) : List SO := [.cells h.g 114 (svA x), .map h.t (tcV x.touched), .own 85 0 2 h.lA x.loads.length h.lc (cellsPr x.loads), .own 85 0 2 h.sA x.stores.length h.sc (cellsPr x.stores)]
theorem own_is {H : List SO} {i sz n c : Nat} {t : TypeId} {A : Option Addr} {xs : List Value} (hi : nth H i = some (.own t 0 sz A n c xs)) : Is H (.own i 0) (.slice A n c) := by
 simp only [Is]; exact ⟨_, _, _, _, _, _, _, hi, Nat.le_refl _, ⟨_, _, _, rfl⟩, fun _ => rfl⟩
theorem quad_cells {E : Env} {F : List (Nat × SV)} {x : At} {h : Hd} {a : Act} {W : World} (rep : Rep E { F := F, H := quad 114 85 x h } a W) : Rep E { F := F, H := quadS x h } a W := by
 refine rep.rowTo 0 (l := svA x) rfl ?_
 simp only [svA, cellsA, IsL]
 refine ⟨_, _, rfl, ⟨_, _, rfl, ⟨_, _, rfl, ⟨_, _, rfl, ⟨_, _, rfl, ⟨_, _, rfl, ⟨_, _, rfl, ⟨_, _, own_is rfl, ⟨_, _, own_is rfl, ⟨_, _, rfl, ⟨_, _, rfl, ⟨_, _, rfl, ⟨_, _, ?_, rfl, rfl⟩, rfl⟩, rfl⟩, rfl⟩, rfl⟩, rfl⟩, rfl⟩, rfl⟩, rfl⟩, rfl⟩, rfl⟩, rfl⟩, rfl⟩
 simp only [Is]; exact ⟨_, rfl, rfl⟩
theorem quad_row {E : Env} {F : List (Nat × SV)} {y : At} {h : Hd} {r : List SO} {a : Act} {W : World} (rep : Rep E { F := F, H := quadS y h ++ r } a W) : Rep E { F := [], H := quad 114 85 y h } a W := by
 have r1 : Rep E { F := [], H := quadS y h } a W := rep.le (by (simp only [setn, List.nil_append, List.cons_append, leF, leH_nil, leH_cons, leF_nil, lk, scp, scpL, scpO, resF, resH, resO, resV, resVL, nth, Nat.reduceBEq, Nat.reduceLT, decide_true, decide_false, List.length, List.length_cons, List.length_nil, Nat.reduceAdd, Bool.and_self, Bool.and_true, and_true, true_and, numF] <;> try simp)) (leH_app (H := quadS y h) (by intro e he; simp only [quadS, List.mem_cons, List.not_mem_nil, or_false] at he; rcases he with rfl | rfl | rfl | rfl <;> rfl))
 exact r1.torow 0 (g := h.g) (t := 114) (l := svA y) (xs := cellsA y h) rfl rfl
theorem load77 {E0 : Env} {W : World} (x : At) (h : Hd) (e : Ev) (hl : x.loads.length ≤ 1000000) (hs : x.stores.length ≤ 1000000) (hW : HeapOk E0 (quad 114 85 x h) W) :
  CallsV Try.prog 74 [ptrH h, e.val] W fun v W' => v = .tuple #[] ∧ ∃ h' : Hd, h'.g = h.g ∧ h'.t = h.t ∧ HeapOk E0 (quad 114 85 (loadA x e) h') W' := by
 obtain ⟨b0, N, st, nt0, mk0⟩ := E0
 refine calls_lent (keep := K74) (nt := 67) (svs := [.ptr 0 0, .agg e.sv]) Try.func74 x74 n74 (by simp) hW ?_ fun R hR => ?_
 ·simp only [IsL]
  exact ⟨_, _, by simp only [Is]; exact ⟨_, rfl, rfl⟩, ⟨_, _, Ev.is _ e, rfl, rfl⟩, rfl⟩
 refine G.le (E' := ⟨b0, N, st, 67, []⟩) rfl (s' := { F := numF 0 [.ptr 0 0, .agg e.sv], H := quadS x h }) (fun a W rep => quad_cells rep) ?_
 have fin : ∀ (F : List (Nat × SV)) (y : At) (h' : Hd) (r : List SO), y = loadA x e → h'.g = h.g → h'.t = h.t → RetG (cxOf Try.prog Try.f74 K74 T74 R) ⟨b0, N, st, 67, []⟩ { F := F, H := quadS y h' ++ r } := by
  intro F y h' r hy h1 h2 a W rep
  subst hy
  refine ret_rule (vs := []) r74 rfl rfl (fun W hW => hR _ _ ⟨rfl, h', h1, h2, ?_⟩) a W (quad_row rep)
  exact HeapOk.env (E := ⟨b0, N, st, 67, []⟩) (E' := ⟨b0, N, st, nt0, mk0⟩) rfl rfl rfl hW
 have finE : ∀ (F : List (Nat × SV)) (y : At) (h' : Hd), y = loadA x e → h'.g = h.g → h'.t = h.t → G (cxOf Try.prog Try.f74 K74 T74 R) ⟨b0, N, st, 67, []⟩ [] { F := F, H := quadS y h' } := by
  intro F y h' hy h1 h2 a W rep
  subst hy
  refine end_rule (vs := []) r74 rfl rfl (fun W hW => hR _ _ ⟨rfl, h', h1, h2, ?_⟩) a W (quad_row (r := []) rep)
  exact HeapOk.env (E := ⟨b0, N, st, 67, []⟩) (E' := ⟨b0, N, st, nt0, mk0⟩) rfl rfl rfl hW
 simp only [quadS, svA]
 (refine Y_go 600 ?_; dsimp only [X74, Ev.sv, numF, Nat.reduceAdd, zq9r, zq9q, Y_k, zq5f, zq8o, zq6n, Nat.reduceBEq, zq6l, zq6k, zq7t, List.length_cons, List.length_nil, zq8l, zq73, zq8m, zq8k, zq0a, zq1z, List.cons_append, List.nil_append, YK, zq8t, zq9i, normF, zq6m, zq86, zq8c, zq88, zq9y, t74n5, T74n5, zq4u, zq5i, zq29, zq5a, zq14, zq5c, zq1o, nth, zq1k, dropL, takeL, zq19, zq18, zq64, zq8p, zq6q, den, zq4j, zq00, zq92, zq4i, setn, zq8s, t74n4, T74n4, Nat.add_zero, zq9j])
 refine fun g => ⟨tcV_keys _, ?_⟩
 rw [mput_tc]
 refine call_val (R := fun v => v = .int .i64 (findI x.stores e.addr)) (vs := [.slice h.sA x.stores.length h.sc, .int .i64 e.addr]) rfl (fun W hW => find78 h.sA h.sc x.stores e.addr W (hW.rowAt' (i := 3) rfl) hs) fun v hv => ⟨.val (.int .i64 (findI x.stores e.addr)), by rw [hv]; simp [Is], ?_⟩
 (refine Y_go 600 ?_; dsimp only [zq8t, Y_k, zq50, zq8o, zq6n, Nat.reduceBEq, zq6k, zq8p, zq6q, zq04, zq92, zq9b, zq0i, zq9h, YK, zq9i, normF, zq6l, zq6m, zq86, zq87, zq8c, zq88, zq9s, zq6h, zq8x, YC, zq9x, zq9p, zq9y, t74n3, T74n3, zq9r, zq9q, zq4u, zq5i, zq29, zq5a, zq14, Nat.add_zero, Nat.reduceAdd, zq5c, zq1o, nth, zq1k, List.length_cons, List.length_nil, dropL, takeL, zq19, zq18, zq9j])
 refine ⟨fun hge => ?_, fun hge => ?_⟩
 ·rw [findI_nn] at hge
  obtain ⟨j, hj⟩ := Option.isSome_iff_exists.1 hge
  exact fin _ { x with touched := tch x.touched e.addr } h _ (by unfold loadA; rw [hj]) rfl rfl
 rw [findI_nn] at hge
 have hns : findN x.stores e.addr = none := by simpa using hge
 refine call_val (R := fun v => v = .int .i64 (findI x.loads e.addr)) (vs := [.slice h.lA x.loads.length h.lc, .int .i64 e.addr]) rfl (fun W hW => find78 h.lA h.lc x.loads e.addr W (hW.rowAt' (i := 2) rfl) hl) fun v hv => ⟨.val (.int .i64 (findI x.loads e.addr)), by rw [hv]; simp [Is], ?_⟩
 (refine Y_go 600 ?_; dsimp only [zq8t, Y_k, zq4u, zq8o, zq6n, Nat.reduceBEq, zq6k, YK, zq9i, normF, zq6l, zq6m, zq86, zq8a, zq87, zq8c, zq88, zq9y, t74n1, T74n1, zq9r, zq9q, zq50, zq8p, zq6q, zq04, zq92, zq9b, zq0i, zq9h, zq9s, zq6h, zq8x, YC, t74n0, T74n0, zq5i, zq29, zq5a, zq14, Nat.reduceAdd, zq5c, zq1o, nth, zq1k, List.length_cons, List.length_nil, dropL, takeL, zq19, zq18, Y_gk, zq6e, YS, zq6a, zq4v, zq6o, zq0b, zq5d, zq7v, zq7h, zq0a, zq1x, zq1t, zq1r, splice, setn, zq8s, zq89, zq9x, YR, zq6c, Nat.add_zero, zq58, zq06, zq0y, zq09, zq08, zq0v, zq15, zq13, zq1q, zq1n, zq1c, List.nil_append, zq1b, zq96, zq9d, zq0c, zq7u, zq7g, zq9p, t74n2, T74n2, zq5g, List.map, zq21, zq73, zq20, zq22, zq25, zq5h, repL, List.cons_append, zq23, Nat.reduceMul, zq7t, zq8l, zq8m, zq8k, zq24, zq26, zq5l, zq2w, zq2s, zq2r, zq2n, zq2j, zq2k, denL, den, zq2l, zq2h, zq81, zq7n, zqa3])
 refine ⟨fun hge => ?_, fun hge => ?_⟩
 ·rw [findI_nn] at hge
  obtain ⟨j, hj⟩ := Option.isSome_iff_exists.1 hge
  have hfi : findI x.loads e.addr = (j : Int) := by unfold findI; rw [hj]
  obtain ⟨hj1, _, _⟩ := findN_some hj
  have hlo : loadA x e = { x with touched := tch x.touched e.addr, odd := x.odd || !((x.loads.getD j (0, 0)).2 == e.value) } := by unfold loadA; rw [hns, hj]
  refine ⟨fun ho => ?_, fun ho => ⟨by omega, (x.loads.getD j (0, 0)).2, ?_, ?_⟩⟩
  ·intro a W rep
   exact fin _ { x with touched := tch x.touched e.addr, odd := true } h [_] (by rw [hlo, ho]; rfl) rfl rfl a W (rep.cellsTo 0 (l' := svA { x with touched := tch x.touched e.addr, odd := true }) rfl fun vs h => h)
  ·rw [hfi, Int.toNat_natCast, cellsPr_get _ hj1 (by omega), prs_get hj1]; rfl
  ·exact fin _ { x with touched := tch x.touched e.addr, odd := !((x.loads.getD j (0, 0)).2 == e.value) } h _ (by rw [hlo, ho]; rfl) rfl rfl
 ·rw [findI_nn] at hge
  have hnl : findN x.loads e.addr = none := by simpa using hge
  refine fun g1 => ⟨⟨by simp only [maxLen]; omega, by omega⟩, fun A c => ?_⟩
  intro a W rep
  have hlo : loadA x e = { x with touched := tch x.touched e.addr, loads := x.loads ++ [(e.addr, e.value)] } := by unfold loadA; rw [hns, hnl]
  have hc2 : cellsPr (x.loads ++ [(e.addr, e.value)]) = cellsPr x.loads ++ [.int .i64 e.addr, .int .u64 e.value] := by rw [cellsPr_app]; rfl
  refine finE [] (loadA x e) { h with lA := A, lc := c } rfl rfl rfl a W ?_
  rw [hlo]
  refine rep.res.le (by (simp only [setn, List.nil_append, List.cons_append, leF, leH_nil, leH_cons, leF_nil, lk, scp, scpL, scpO, resF, resH, resO, resV, resVL, nth, Nat.reduceBEq, Nat.reduceLT, decide_true, decide_false, List.length, List.length_cons, List.length_nil, Nat.reduceAdd, Bool.and_self, Bool.and_true, and_true, true_and, numF] <;> try simp)) ?_
  simp only [quadS, svA, hc2, List.length_append, List.length_cons, List.length_nil]
  (simp only [setn, List.nil_append, List.cons_append, leF, leH_nil, leH_cons, leF_nil, lk, scp, scpL, scpO, resF, resH, resO, resV, resVL, nth, Nat.reduceBEq, Nat.reduceLT, decide_true, decide_false, List.length, List.length_cons, List.length_nil, Nat.reduceAdd, Bool.and_self, Bool.and_true, and_true, true_and, numF] <;> try simp)
end Go.Proofs.Ytbkpiljencaoeaa
namespace Go.Proofs.Ytbkpiljencaoeaa
open Go Go.Sx Go.Hs
set_option maxRecDepth 100000
theorem load_lane (x : At) (e : Ev) : (loadA x e).lane = x.lane := by
 unfold loadA
 repeat' split
 all_goals rfl
theorem load_hard (x : At) (e : Ev) : hardB (loadA x e) = hardB x := by unfold hardB; rw [load_lane]
theorem cellsPr_set : ∀ (l : List Pr) (j : Nat) (a v : Int), j < l.length → (l.getD j (0, 0)).1 = a → setn (cellsPr l) (j * 2 + 1) (.int .u64 v) = cellsPr (l.set j (a, v))
 | p :: l, 0, a, v, _, h => by
  simp at h; subst h; rfl
 | p :: l, j + 1, a, v, hj, h => by
  have ih := cellsPr_set l j a v (by simpa using hj) (by simpa using h)
  have e : (j + 1) * 2 + 1 = (j * 2 + 1) + 2 := by omega
  rw [e]
  show setn (Value.int .i64 p.1 :: Value.int .u64 p.2 :: cellsPr l) (j * 2 + 1 + 1 + 1) _ = _
  simp only [setn]
  rw [ih]; rfl
theorem hear70 {E0 : Env} {W : World} (x : At) (h : Hd) (n : Int) (e : Ev) (hl : x.loads.length ≤ 1000000) (hs : x.stores.length ≤ 1000000) (hW : HeapOk E0 (quad 114 85 x h) W) :
  CallsV Try.prog 63 [ptrH h, .int .i64 n, e.val] W fun v W' => v = .tuple #[] ∧ ∃ h' : Hd, h'.g = h.g ∧ h'.t = h.t ∧ HeapOk E0 (quad 114 85 (hearA x n e) h') W' := by
 obtain ⟨b0, N, st, nt0, mk0⟩ := E0
 refine calls_lent (keep := K63) (nt := 106) (svs := [.ptr 0 0, .val (.int .i64 n), .agg e.sv]) Try.func63 x63 n63 (by simp) hW ?_ fun R hR => ?_
 ·simp only [IsL]
  exact ⟨_, _, by simp only [Is]; exact ⟨_, rfl, rfl⟩, ⟨_, _, by simp only [Is], ⟨_, _, Ev.is _ e, rfl, rfl⟩, rfl⟩, rfl⟩
 have back : ∀ {y : At} {h' : Hd} {W : World}, y = hearA x n e → h'.g = h.g → h'.t = h.t → HeapOk ⟨b0, N, st, 106, []⟩ (quad 114 85 y h') W → R (.tuple #[]) W := by
  intro y h' W hy h1 h2 hW
  subst hy
  exact hR _ _ ⟨rfl, h', h1, h2, HeapOk.env (E := ⟨b0, N, st, 106, []⟩) (E' := ⟨b0, N, st, nt0, mk0⟩) rfl rfl rfl hW⟩
 have finE : ∀ (F : List (Nat × SV)) (y : At) (h' : Hd) (r : List SO), y = hearA x n e → h'.g = h.g → h'.t = h.t → G (cxOf Try.prog Try.f63 K63 T63 R) ⟨b0, N, st, 106, []⟩ [] { F := F, H := quad 114 85 y h' ++ r } := fun F y h' r hy h1 h2 =>
  end_rule (vs := []) r63 rfl rfl fun W hW => back hy h1 h2 (HeapOk.pre hW fun e he => scpO_mono (quad_shut _ _ _ _ e he))
 have finS : ∀ (F : List (Nat × SV)) (y : At) (h' : Hd) (r : List SO), y = hearA x n e → h'.g = h.g → h'.t = h.t → G (cxOf Try.prog Try.f63 K63 T63 R) ⟨b0, N, st, 106, []⟩ [] { F := F, H := quadS y h' ++ r } := fun F y h' r hy h1 h2 a W rep =>
  finE [] y h' [] hy h1 h2 a W (quad_row rep)
 have finR : ∀ (F : List (Nat × SV)) (y : At) (h' : Hd) (r : List SO), y = hearA x n e → h'.g = h.g → h'.t = h.t → RetG (cxOf Try.prog Try.f63 K63 T63 R) ⟨b0, N, st, 106, []⟩ { F := F, H := quadS y h' ++ r } := fun F y h' r hy h1 h2 a W rep =>
  ret_rule (vs := []) r63 rfl rfl (fun W hW => back hy h1 h2 hW) a W (quad_row rep)
 have hard : ∀ {H : List SO} (y : At) (h' : Hd) (W : World), HeapOk ⟨b0, N, st, 106, []⟩ H W → nth H 0 = some (.row h'.g 114 (cellsA y h')) → CallsV Try.prog 75 [ptrH h'] W fun v w' => v = .bool (hardB y) ∧ Fresh W w' := fun y h' W hW hi =>
  hard56 y h' (some ⟨h'.g, 0, none⟩) W (hW.cellsRow hi)
 refine G.le (E' := ⟨b0, N, st, 106, []⟩) rfl (s' := { F := numF 0 [.ptr 0 0, .val (.int .i64 n), .agg e.sv], H := quadS x h }) (fun a W rep => quad_cells rep) ?_
 simp only [quadS, svA]
 (refine Y_go 600 ?_; dsimp only [X63, Ev.sv, numF, Nat.reduceAdd, zq9r, zq9q, Y_k, zq5f, zq8o, zq6n, Nat.reduceBEq, zq6l, zq6k, zq7t, List.length_cons, List.length_nil, zq8l, zq73, zq8m, zq8k, zq0a, zq1z, List.cons_append, List.nil_append, YK, zq8t, zq9i, normF, zq6m, zq86, zq8c, zq88, zq87, zq9y, t63n19, T63n19, zq5a, zq14, Nat.add_zero, zq5c, zq1o, nth, zq1k, dropL, takeL, zq19, zq18, t63n18, T63n18, zq9t, zq50, zq8p, zq6q, zq04, zq92, zq9b, zq0i, zq9c, zq4u, zq9s, zq6h, zq8x, YC, t63n2, T63n2, zq17, zq9j, t63n17, T63n17, zq8a, t63n7, T63n7, zq5i, zq29, zq64, den, zq4j, zq00, zq4i, setn, zq8s, zq89, t63n6, T63n6, t63n16, T63n16, t63n9, T63n9, t63n15, T63n15, t63n12, T63n12, zq5d, zq7u, zq1x, zq1t, zq1r, splice, zq6o, zq7v, zq7h, t63n11, T63n11, t63n14, T63n14, t63n13, T63n13, zq9m, zq9p, zqa1, zqa3])
 refine fun g => ⟨fun h2 => ?_, fun h2 => ⟨fun h3 => ?_, fun h3 => ⟨fun h4 => ?_, fun h4 => ⟨fun h5 => ?_, fun h5 => ⟨fun h6 => ?_, fun h6 => ?_⟩⟩⟩⟩⟩
 ·have h2 := eq_of_beq h2
  refine G.le (E' := ⟨b0, N, st, 106, []⟩) rfl (s' := { F := [(12, .agg e.sv), (11, .ptr 0 0), (0, .ptr 0 0), (1, .val (.int .i64 n))], H := quad 114 85 x h ++ [.cells g 53 e.sv] }) (fun a W rep => (rep.torow 0 (xs := cellsA x h) rfl rfl).le (by simp only [Ev.sv]; (simp only [setn, List.nil_append, List.cons_append, leF, leH_nil, leH_cons, leF_nil, lk, scp, scpL, scpO, resF, resH, resO, resV, resVL, nth, Nat.reduceBEq, Nat.reduceLT, decide_true, decide_false, List.length, List.length_cons, List.length_nil, Nat.reduceAdd, Bool.and_self, Bool.and_true, and_true, true_and, numF] <;> try simp)) (by simp only [quad, Ev.sv]; (simp only [setn, List.nil_append, List.cons_append, leF, leH_nil, leH_cons, leF_nil, lk, scp, scpL, scpO, resF, resH, resO, resV, resVL, nth, Nat.reduceBEq, Nat.reduceLT, decide_true, decide_false, List.length, List.length_cons, List.length_nil, Nat.reduceAdd, Bool.and_self, Bool.and_true, and_true, true_and, numF] <;> try simp))) ?_
  refine call_lent (quad 114 85 x h) [.cells g 53 e.sv] (vs := [ptrH h, .int .i64 n, e.val].eraseIdx 1) (fun v H1' => v = .tuple #[] ∧ ∃ h' : Hd, h'.g = h.g ∧ h'.t = h.t ∧ H1' = (quad 114 85 (loadA x e) h').map (verO 1)) rfl rfl (fun W _ hW => (load77 x h e hl hs hW).mono fun v W' ⟨hv, h', k1, k2, k3⟩ => ⟨_, ⟨hv, h', k1, k2, rfl⟩, ?_, rfl, k3.vers (quad_shut _ _ _ _) 1⟩) fun v H1' ⟨hv, h', k1, k2, hH⟩ => ⟨.tup [], by rw [hv]; simp [Is, IsL], ?_⟩
  ·exact extB_spec (by simp [extB, quad, verO, SO.blk, bump, k1, k2])
  subst hH
  refine G.le (E' := ⟨b0, N, st, 106, []⟩) rfl (s' := { F := [(0, .ptr 0 0), (1, .val (.int .i64 n))], H := quad 114 85 (loadA x e) h' ++ [.cells g 53 e.sv] }) (fun a W rep => rep.res.le (by simp only [quad, verO, Ev.sv, List.map_cons, List.map_nil, putF]; (simp only [setn, List.nil_append, List.cons_append, leF, leH_nil, leH_cons, leF_nil, lk, scp, scpL, scpO, resF, resH, resO, resV, resVL, nth, Nat.reduceBEq, Nat.reduceLT, decide_true, decide_false, List.length, List.length_cons, List.length_nil, Nat.reduceAdd, Bool.and_self, Bool.and_true, and_true, true_and, numF] <;> try simp)) (by simp only [quad, verO, Ev.sv, List.map_cons, List.map_nil]; (simp only [setn, List.nil_append, List.cons_append, leF, leH_nil, leH_cons, leF_nil, lk, scp, scpL, scpO, resF, resH, resO, resV, resVL, nth, Nat.reduceBEq, Nat.reduceLT, decide_true, decide_false, List.length, List.length_cons, List.length_nil, Nat.reduceAdd, Bool.and_self, Bool.and_true, and_true, true_and, numF] <;> try simp))) ?_
  simp only [quad, List.cons_append, List.nil_append]
  (refine Y_go 600 ?_; dsimp only [zq9i, normF, zq6n, Nat.reduceBEq, zq6k, zq6l, zq6m, zq86, zq87, zq8c, zq9y, t63n1, T63n1, zq9r, zq9q, Y_k, zq4u, zq8o, YK, zq8t, zq9j])
  refine call_val (R := fun v => v = .bool (hardB (loadA x e))) (vs := [ptrH h']) rfl (fun W hW => hard (loadA x e) h' W hW rfl) fun v hv => ⟨bsv (hardB (loadA x e)), by rw [hv]; cases hardB (loadA x e) <;> simp [Is, bsv], ?_⟩
  cases hh : hardB (loadA x e) with
  | true =>
   simp only [bsv]
   (refine Y_go 600 ?_; dsimp only [zq8t, zq9i, normF, zq6n, Nat.reduceBEq, zq6l, zq6k, zq6m, zq86, zq89, zq87, zq8c, zq9s, zq8o, zq6f, YC, zq9y, t63n0, T63n0, zq9q, Y_k, zq4u, YK, zq5i, zq29, zq5a, zq14, Nat.add_zero, Nat.reduceAdd, zq5d, zq7u, zq73, zq0a, zq1x, nth, zq1u, denL, den, zq1s, splice, setn, zq8s, zqa1, zqa3])
   refine ⟨by simp [cellsA], ?_⟩
   refine finE _ { loadA x e with point := n } h' _ ?_ k1 k2
   unfold hearA; rw [if_pos h2, ← load_hard x e, if_pos hh]
  | false =>
   simp only [bsv]
   (refine Y_go 600 ?_; dsimp only [zq8t, zq9i, normF, zq6n, Nat.reduceBEq, zq6l, zq6k, zq6m, zq86, zq8a, zq87, zq8c, zq9s, zq8o, zq6g, YC, zq9p, zqa1, zqa3])
   refine finE _ (loadA x e) h' _ ?_ k1 k2
   unfold hearA; rw [if_pos h2, ← load_hard x e, if_neg (by rw [hh]; simp)]
 ·have h3 := eq_of_beq h3
  have hh : hearA x n e = { x with touched := tch x.touched e.addr, stores := putS x.stores e.addr e.value } := by unfold hearA; rw [if_neg (by omega), if_pos h3]
  refine ⟨tcV_keys _, ?_⟩
  rw [mput_tc]
  refine call_val (R := fun v => v = .int .i64 (findI x.stores e.addr)) (vs := [.slice h.sA x.stores.length h.sc, .int .i64 e.addr]) rfl (fun W hW => find78 h.sA h.sc x.stores e.addr W (hW.rowAt' (i := 3) rfl) hs) fun v hv => ⟨.val (.int .i64 (findI x.stores e.addr)), by rw [hv]; simp [Is], ?_⟩
  (refine Y_go 600 ?_; dsimp only [zq8t, Y_k, zq4u, zq8o, zq6n, Nat.reduceBEq, zq6k, YK, zq9i, normF, zq6l, zq6m, zq86, zq89, zq8a, zq87, zq8c, zq88, zq9y, t63n4, T63n4, zq9r, zq9q, zq50, zq8p, zq6q, zq04, zq92, zq9b, zq0i, zq9h, zq9s, zq6h, zq8x, YC, t63n3, T63n3, zq5i, zq29, zq5a, zq14, Nat.add_zero, Nat.reduceAdd, zq5c, zq1o, nth, zq1k, List.length_cons, List.length_nil, dropL, takeL, zq19, zq18, zq58, zq06, zq0y, zq09, zq08, zq0v, zq15, zq13, zq5d, zq7u, zq73, zq0a, zq1y, zq1w, denL, den, zq1v, splice, setn, zq8s, zq9x, zq9p, t63n5, T63n5, zq5g, List.map, zq21, zq20, zq22, zq25, zq5h, repL, List.cons_append, List.nil_append, zq23, Nat.reduceMul, zq7t, zq8l, zq8m, zq8k, zq24, zq26, zq5l, zq2w, zq2s, zq2r, zq2n, zq2j, zq2k, zq2l, zq2h, zq81, zq7n, zq1x, zq1t, zq1r, zqa1, zqa3])
  refine ⟨fun hge => ?_, fun hge => ?_⟩
  ·rw [findI_nn] at hge
   obtain ⟨j, hj⟩ := Option.isSome_iff_exists.1 hge
   have hfi : findI x.stores e.addr = (j : Int) := by unfold findI; rw [hj]
   obtain ⟨hj1, hj2, _⟩ := findN_some hj
   refine ⟨by omega, by rw [hfi, cellsPr_len]; omega, ?_⟩
   rw [hfi, Int.toNat_natCast, cellsPr_set _ _ _ _ hj1 hj2]
   have hp : putS x.stores e.addr e.value = x.stores.set j (e.addr, e.value) := by unfold putS; rw [hj]
   have hlen : (x.stores.set j (e.addr, e.value)).length = x.stores.length := by simp
   rw [← hlen]
   exact finR _ { x with touched := tch x.touched e.addr, stores := x.stores.set j (e.addr, e.value) } h [_] (by rw [hh, hp]) rfl rfl
  ·rw [findI_nn] at hge
   have hns : findN x.stores e.addr = none := by simpa using hge
   refine fun g1 => ⟨⟨by simp only [maxLen]; omega, by omega⟩, fun A c => ?_⟩
   intro a W rep
   have hp : putS x.stores e.addr e.value = x.stores ++ [(e.addr, e.value)] := by unfold putS; rw [hns]
   have hc2 : cellsPr (x.stores ++ [(e.addr, e.value)]) = cellsPr x.stores ++ [.int .i64 e.addr, .int .u64 e.value] := by rw [cellsPr_app]; rfl
   refine finS [] { x with touched := tch x.touched e.addr, stores := x.stores ++ [(e.addr, e.value)] } { h with sA := A, sc := c } [] (by rw [hh, hp]) rfl rfl a W ?_
   refine rep.res.le (by (simp only [setn, List.nil_append, List.cons_append, leF, leH_nil, leH_cons, leF_nil, lk, scp, scpL, scpO, resF, resH, resO, resV, resVL, nth, Nat.reduceBEq, Nat.reduceLT, decide_true, decide_false, List.length, List.length_cons, List.length_nil, Nat.reduceAdd, Bool.and_self, Bool.and_true, and_true, true_and, numF] <;> try simp)) ?_
   simp only [quadS, svA, hc2, List.length_append, List.length_cons, List.length_nil]
   (simp only [setn, List.nil_append, List.cons_append, leF, leH_nil, leH_cons, leF_nil, lk, scp, scpL, scpO, resF, resH, resO, resV, resVL, nth, Nat.reduceBEq, Nat.reduceLT, decide_true, decide_false, List.length, List.length_cons, List.length_nil, Nat.reduceAdd, Bool.and_self, Bool.and_true, and_true, true_and, numF] <;> try simp)
 ·have h4 := eq_of_beq h4
  refine call_val (R := fun v => v = .bool (hardB x)) (vs := [ptrH h]) rfl (fun W hW => hard56 x h (some ⟨h.g, 0, none⟩) W (hW.cellsAt (i := 0) (xs := cellsA x h) rfl rfl)) fun v hv => ⟨bsv (hardB x), by rw [hv]; cases hardB x <;> simp [Is, bsv], ?_⟩
  cases hh : hardB x with
  | true =>
   simp only [bsv]
   (refine Y_go 600 ?_; dsimp only [zq8t, Y_k, zq53, zq8o, zq6n, Nat.reduceBEq, zq6k, zq0m, YK, zq9i, normF, zq6l, zq6m, zq86, zq8a, zq89, zq87, zq8c, zq88, zq9s, zq6g, YC, zq9p, zqa1, zqa3])
   refine finS _ x h [_] ?_ rfl rfl
   unfold hearA; rw [if_neg (by omega), if_neg (by omega), if_pos h4, if_pos hh]
  | false =>
   simp only [bsv]
   (refine Y_go 600 ?_; dsimp only [zq8t, Y_k, zq53, zq8o, zq6n, Nat.reduceBEq, zq6k, zq0n, YK, zq9i, normF, zq6l, zq6m, zq86, zq89, zq8a, zq87, zq8c, zq88, zq9s, zq6f, YC, zq9y, t63n8, T63n8, zq9q, zq4u, zq5i, zq29, zq5a, zq14, Nat.add_zero, Nat.reduceAdd, zq5d, zq7u, zq73, zq0a, zq1x, nth, zq1t, dropL, takeL, zq1r, splice, setn, zq8s, zqa1, zqa3])
   refine finS _ { x with point := n } h [_] ?_ rfl rfl
   unfold hearA; rw [if_neg (by omega), if_neg (by omega), if_pos h4, if_neg (by rw [hh]; simp)]
 ·have h5 := eq_of_beq h5
  refine call_val (R := fun v => v = .bool (hardB x)) (vs := [ptrH h]) rfl (fun W hW => hard56 { x with to := n, com := true } h (some ⟨h.g, 0, none⟩) W (hW.cellsAt (i := 0) (xs := cellsA { x with to := n, com := true } h) rfl rfl)) fun v hv => ⟨bsv (hardB x), by rw [hv]; cases hardB x <;> simp [Is, bsv], ?_⟩
  cases hh : hardB x with
  | true =>
   simp only [bsv]
   (refine Y_go 600 ?_; dsimp only [zq8t, zq9i, normF, zq6n, Nat.reduceBEq, zq6l, zq6k, zq6m, zq86, zq89, zq8a, zq87, zq8c, zq88, zq9s, zq8o, zq6f, YC, zq9y, t63n10, T63n10, zq9q, Y_k, zq4u, YK, zq5i, zq29, zq5a, zq14, Nat.add_zero, Nat.reduceAdd, zq5d, zq7u, zq73, zq0a, zq1x, nth, zq1t, dropL, takeL, zq1r, splice, setn, zq8s, zqa1, zqa3])
   refine fun a W rep => finS _ { x with to := n, com := true, point := n } h [_] ?_ rfl rfl a W (rep.cellsTo 0 (l' := svA { x with to := n, com := true, point := n }) rfl fun vs h => h)
   unfold hearA; rw [if_neg (by omega), if_neg (by omega), if_neg (by omega), if_pos h5, if_pos hh]
  | false =>
   simp only [bsv]
   (refine Y_go 600 ?_; dsimp only [zq8t, zq9i, normF, zq6n, Nat.reduceBEq, zq6l, zq6k, zq6m, zq86, zq8a, zq89, zq87, zq8c, zq88, zq9s, zq8o, zq6g, YC, zq9p, zqa1, zqa3])
   refine fun a W rep => finS _ { x with to := n, com := true } h [_] ?_ rfl rfl a W (rep.cellsTo 0 (l' := svA { x with to := n, com := true }) rfl fun vs h => h)
   unfold hearA; rw [if_neg (by omega), if_neg (by omega), if_neg (by omega), if_pos h5, if_neg (by rw [hh]; simp)]
 ·have h6 := eq_of_beq h6
  (refine still_y (by dsimp only [zq6n, Nat.reduceBEq, zq6l, zq6k, zq5c, zq8o, zq1o, nth, zq1k, List.length_cons, List.length_nil, Nat.reduceAdd, dropL, takeL, zq19, zq18]; exact ⟨rfl, det_of_den rfl⟩) ?_; refine Y_go 600 ?_; dsimp only [Y_k, zq5i, zq8o, zq6n, Nat.reduceBEq, zq6l, zq6k, zq29, YK, zq8t, zq5a, zq14, Nat.add_zero, Nat.reduceAdd, zq5d, zq7u, zq73, zq0a, zq1x, nth, zq1t, dropL, takeL, zq1r, splice, setn, zq8s, zq9i, normF, zq6m, zq89, zq86, zq8a, zq87, zq8c, zq88, zqa1, zqa3])
  refine finS _ { x with to := n, code := e.code } h [_] ?_ rfl rfl
  unfold hearA; rw [if_neg (by omega), if_neg (by omega), if_neg (by omega), if_neg (by omega), if_pos h6]
 ·refine finS _ x h [_] ?_ rfl rfl
  have h2 : e.kind ≠ 2 := by simpa using h2
  have h3 : e.kind ≠ 3 := by simpa using h3
  have h4 : e.kind ≠ 4 := by simpa using h4
  have h5 : e.kind ≠ 5 := by simpa using h5
  have h6 : e.kind ≠ 6 := by simpa using h6
  unfold hearA; rw [if_neg h2, if_neg h3, if_neg h4, if_neg h5, if_neg h6]
end Go.Proofs.Ytbkpiljencaoeaa
namespace Go.Proofs.Ytbkpiljencaoeaa
open Go Go.Sx Go.Hs
set_option maxRecDepth 100000
structure SpI where
 n : Nat
 s : St
 z : List (At × Hd)
 oA : Option Addr
 oc : Nat
 gm : Nat
theorem split54 (A : Option Addr) (c : Nat) (h : List Ev) (w : World) (hA : RowAt w A (cellsE h)) (hl : h.length ≤ 1000) :
  CallsV Try.prog 39 [.slice A h.length c] w fun v w' => (splitL h = none ∧ v = .tuple #[.slice none 0 0, .int .i64 120] ∧ Fresh w w') ∨
   (∃ (z : List (At × Hd)) (B : Option Addr) (bc : Nat), splitL h = some (z.map (·.1)) ∧ v = .tuple #[.slice B z.length bc, .int .i64 0] ∧ HeapOk ⟨w, w.heap.size, [], 67, []⟩ ([.own 94 0 1 B z.length bc (ptrs z)] ++ famQ 114 85 z) w') := by
 refine calls_go (keep := K39) (nt := 67) (svs := [.val (.slice A h.length c)]) Try.func39 x39 n39 (by simp) (by simp [IsL, Is]) fun R hR => ?_
 (refine Y_go 600 ?_; dsimp only [X39, numF, Nat.reduceAdd, zq9r, zq9q, Y_k, zq4u, zq8p, zq6u, YK, zq8t, zq6q, zq9i, normF, zq6n, Nat.reduceBEq, zq6l, zq6k, zq6m, zq86, zq87, zq9y, t39n17, T39n17, zq9z])
 refine scp_rule (fun _ _ _ h => h) ?_
 (refine Y_go 600 ?_; dsimp only [zq9r, zq9q, Y_k, zq4u, zq8p, zq6u, YK, zq8t, zq9i, normF, zq6n, Nat.reduceBEq, zq6l, zq6k, zq6m, zq86, zq87, zq9y, t39n16, T39n16, zq60, List.length_nil, List.nil_append, zq8o, zq8h, zqa0, t39n15, T39n15, zq55, zq0r, zq6q, zq9t, zq9v])
 intro gm
 refine loop_go (α := SpI) (fun q => q.n ≤ h.length ∧ sp h q.n = some q.s ∧ q.z.map (·.1) = q.s.out) (fun _ => ⟨w, w.heap.size, [], 67, []⟩)
  (fun q => { F := [(0, .val (.slice A h.length c)), (4, .own 1 0), (5, .mp 0), (10, .val (.slice A h.length c)), (11, .val (.int .i64 h.length)), (12, .val (.int .i64 q.n))], H := [.map q.gm (opV q.z q.s.op), .own 94 0 1 q.oA q.z.length q.oc (ptrs q.z)] ++ famQ 114 85 q.z }) (fun q => h.length - q.n) (fun _ => rfl) ?start ?round
 case start =>
  intro a W rep
  exact ⟨⟨0, ⟨[], []⟩, [], none, 0, gm⟩, ⟨Nat.zero_le _, rfl, rfl⟩, (rep.adopt 4 94 1 rfl).le (by (simp only [setn, List.nil_append, List.cons_append, leF, leH_nil, leH_cons, leF_nil, lk, scp, scpL, scpO, resF, resH, resO, resV, resVL, nth, Nat.reduceBEq, Nat.reduceLT, decide_true, decide_false, List.length, List.length_cons, List.length_nil, Nat.reduceAdd, Bool.and_self, Bool.and_true, and_true, true_and, numF] <;> try simp)) (by simp only [famQ, ptrs, opV, List.flatMap_nil, List.map_nil, List.append_nil]; (simp only [setn, List.nil_append, List.cons_append, leF, leH_nil, leH_cons, leF_nil, lk, scp, scpL, scpO, resF, resH, resO, resV, resVL, nth, Nat.reduceBEq, Nat.reduceLT, decide_true, decide_false, List.length, List.length_cons, List.length_nil, Nat.reduceAdd, Bool.and_self, Bool.and_true, and_true, true_and, numF] <;> try simp))⟩
 case round =>
  rintro ⟨n, s, z, oA, oc, gm⟩ ⟨hn, hsp, hz⟩ I again
  simp only at hn hsp hz ⊢
  have hok := sp_ok hsp
  have hlens := sp_lens hsp
  have hzl : z.length = s.out.length := by rw [← hz, List.length_map]
  have hol := hok.len
  by_cases hlt : n < h.length
  rotate_left
  ·have hnl : n = h.length := by omega
   subst hnl
   (refine Y_go 600 ?_; dsimp only [List.cons_append, List.nil_append, zq9y, t39n13, T39n13, zq9r, zq9q, Y_k, zq50, zq8o, zq6n, Nat.reduceBEq, zq6l, zq6k, zq04, zq92, zq9b, zq0i, zq9e, YK, zq8t, zq9i, normF, zq6m, zq86, zq87, zq8h, zq8f, t39n12, T39n12, zq9s, zq6h, zq8x, YC, zq9p, t39n11, T39n11, zq9t, zq4u, zq58, zq06, zq0w, zq5c, zq1p, zq1c, zq1b, zq17, zq5e, List.length_cons, List.map, zq6q, zq5d, zq7t, List.length_nil, Nat.reduceAdd, zq8l, zq73, zq8m, zq8k, zq0a, zq1x, nth, zq9u, popTo, zq6i, YP, t39n14, T39n14, zq8p, zq8a, zq9x])
   refine ⟨fun hb => absurd (of_decide_eq_true hb) (by omega), fun _ => ?_⟩
   refine ret_rule (vs := [.slice oA z.length oc, .int .i64 0]) r39 rfl rfl fun W hW => hR _ _ (.inr ⟨z, oA, oc, ?_, rfl, ?_⟩)
   ·unfold splitL; rw [hsp, hz]; rfl
   ·have h1 := HeapOk.fam (b := []) (r := [.map gm (opV z s.op), .own 94 0 1 oA z.length oc (ptrs z)] ++ famQ 114 85 z) (r' := ([.own 94 0 1 oA z.length oc (ptrs z)] ++ famQ 114 85 z) ++ [.map gm (opV z s.op)]) hW (by simp) (fun e he => ?_) ?_
    ·refine HeapOk.pre (H' := [.own 94 0 1 oA z.length oc (ptrs z)] ++ famQ 114 85 z) h1 fun e he => ?_
     rcases List.mem_append.1 he with h2 | h2
     ·simp only [List.mem_singleton] at h2; subst h2; rfl
     ·exact scpO_mono (famQ_shut _ _ _ e h2)
    ·rcases List.mem_append.1 he with h2 | h2
     ·simp only [List.mem_cons, List.not_mem_nil, or_false] at h2
      rcases h2 with rfl | rfl <;> rfl
     ·exact famQ_shut _ _ _ e h2
    ·exact (List.perm_append_comm (l₁ := [.map gm (opV z s.op)]) (l₂ := [.own 94 0 1 oA z.length oc (ptrs z)] ++ famQ 114 85 z))
  have he : h[n]? = some h[n] := List.getElem?_eq_getElem hlt
  have hnext := sp_get hlt hsp
  generalize h[n] = e at he hnext
  cases ho : opGet s.op e.core with
  | none =>
   refine G.cut rfl (by (simp only [setn, List.nil_append, List.cons_append, leF, leH_nil, leH_cons, leF_nil, lk, scp, scpL, scpO, resF, resH, resO, resV, resVL, nth, Nat.reduceBEq, Nat.reduceLT, decide_true, decide_false, List.length, List.length_cons, List.length_nil, Nat.reduceAdd, Bool.and_self, Bool.and_true, and_true, true_and, numF] <;> try simp)) fun W0 hW0 hov => ?_
   have hAE : RowE ⟨W0, W0.heap.size, fps [.map gm (opV z s.op), .own 94 0 1 oA z.length oc (ptrs z)], 67, []⟩ A (cellsE h) := (hA.toE (by simp) 67 []).over hov
   have cl : ∀ k v, e.cells[k]? = some v → CellAt ⟨W0, W0.heap.size, fps [.map gm (opV z s.op), .own 94 0 1 oA z.length oc (ptrs z)], 67, []⟩ A ((n : Int).toNat * 9 + k) v := by
    intro k v hk
    rw [Int.toNat_natCast]
    obtain ⟨_, rfl⟩ := List.getElem?_eq_some_iff.1 he
    exact hAE.cell (by rw [cellsE_get h hlt (List.getElem?_eq_some_iff.1 hk).1]; exact hk)
   have hc : curA s e.core = none := by unfold curA; rw [ho]; rfl
   (refine Y_go 600 ?_; dsimp only [zq9y, t39n13, T39n13, zq9r, zq9q, Y_k, zq50, zq8o, zq6n, Nat.reduceBEq, zq6l, zq6k, zq04, zq92, zq9b, zq0i, zq9e, YK, zq8t, zq9i, normF, zq6m, zq86, zq87, zq8h, zq8f, t39n12, T39n12, zq9s, zq6h, zq8x, YC, zq9p, t39n11, T39n11, zq9t, zq4u, zq58, zq06, zq0w, zq5c, zq1p, zq1c, List.nil_append, List.cons_append, zq1b, zq17, zq5e, List.length_cons, List.length_nil, Nat.reduceAdd, List.map, zq6q, zq5d, zq7t, zq8l, zq73, zq8m, zq8k, zq0a, zq1x, nth, zq1t, dropL, takeL, zq1r, splice, setn, zq8s, zq89, zq8c, t39n10, T39n10, zq5a, zq14, zq1o, zq1k, zq19, zq18, zq61, zq4h, zq00, zq4g, zq4f, t39n9, T39n9, zq9j, zq9u, popTo, zq6i, YP, t39n14, T39n14, zq8p, zq8a, zq9x])
   refine ⟨fun _ => ?_, fun hb => absurd (of_decide_eq_false hb) (by omega)⟩
   refine ⟨⟨by omega, by omega, hAE.isSome (j := n * 9) (by rw [cellsE_len]; omega)⟩, _, cl 0 _ rfl, _, cl 1 _ rfl, _, cl 2 _ rfl, _, cl 3 _ rfl, _, cl 4 _ rfl, _, cl 5 _ rfl, _, cl 6 _ rfl, _, cl 7 _ rfl, _, cl 8 _ rfl, fun g => ⟨opV_keys _ _, none, by rw [mget_op, ho]; rfl, .adr none 0, rfl, ?_⟩⟩
   refine call_val (R := fun v => v = .bool (mayB e none)) (vs := [e.val, .pointer none]) rfl (fun W hW => may69_none e W) fun v hv => ⟨bsv (mayB e none), by rw [hv]; cases mayB e none <;> simp [Is, bsv], ?_⟩
   cases hm : mayB e none with
   | false =>
    have hno : sp h (n + 1) = none := by rw [hnext]; unfold Hs.stepS; rw [hc, hm]; rfl
    simp only [bsv]
    (refine Y_go 600 ?_; dsimp only [zq8d, zq6n, Nat.reduceBEq, zq6k, zq8t, Y_k, zq53, zq8o, zq0n, YK, zq9i, normF, zq6l, zq6m, zq86, zq89, zq87, zq8c, zq8h, zq8f, zq9s, zq6f, YC, zq9y, t39n0, T39n0, zq9r, zq9q, zq4u, zq8p, zq6u, zq6q, zq9x])
    refine ret_rule (vs := [.slice none 0 0, .int .i64 120]) r39 rfl rfl fun W hW => hR _ _ (.inl ⟨?_, rfl, ?_⟩)
    ·unfold splitL; rw [sp_none hno hlt]; rfl
    ·exact (hov.heap hW).fresh'
   | true =>
    simp only [bsv]
    (refine Y_go 600 ?_; dsimp only [zq8d, zq6n, Nat.reduceBEq, zq6k, zq8t, Y_k, zq53, zq8o, zq0m, YK, zq9i, normF, zq6l, zq6m, zq86, zq8a, zq89, zq87, zq8c, zq8h, zq8f, zq9s, zq6g, YC, zq9p, zq9y, t39n8, T39n8, zq9r, zq9t, zq9q, zq5c, zq1o, nth, zq1k, List.length_cons, List.length_nil, Nat.reduceAdd, dropL, takeL, zq19, zq17, zq9j])
    refine call_val (R := fun v => v = .bool (plainB e)) (vs := [e.val]) rfl (fun W hW => plain55 e W) fun v hv => ⟨bsv (plainB e), by rw [hv]; cases plainB e <;> simp [Is, bsv], ?_⟩
    cases hp : plainB e with
    | true =>
     have hst : sp h (n + 1) = some s := by rw [hnext]; unfold Hs.stepS; rw [hc, hm, hp]; rfl
     simp only [bsv]
     (refine Y_go 600 ?_; dsimp only [zq8t, Y_k, zq4u, zq8o, zq6n, Nat.reduceBEq, zq6k, YK, zq9i, normF, zq6l, zq6m, zq86, zq89, zq8a, zq87, zq8d, zq8c, zq8h, zq8f, zq9s, zq6f, YC, zq9u, popTo, zq6i, YP, zq9q, zq4w, zq8p, zq6q, zq04, zq92, zq9b, zq0e, zqa2])
     refine ⟨((n + 1 : Nat) : Int), ArOk.to (by omega) (by omega) (by omega), lend_rule fun a W rep => ?_⟩
     refine again ⟨n + 1, s, z, oA, oc, gm⟩ ⟨hlt, hst, hz⟩ (by simp only; omega) a W ?_
     refine Rep.back hW0 (famQ_shut _ _ _) (E' := ⟨W0, W0.heap.size, fps [.map gm (opV z s.op), .own 94 0 1 oA z.length oc (ptrs z)], 67, []⟩) (rep.le (by (simp only [setn, List.nil_append, List.cons_append, leF, leH_nil, leH_cons, leF_nil, lk, scp, scpL, scpO, resF, resH, resO, resV, resVL, nth, Nat.reduceBEq, Nat.reduceLT, decide_true, decide_false, List.length, List.length_cons, List.length_nil, Nat.reduceAdd, Bool.and_self, Bool.and_true, and_true, true_and, numF] <;> try simp)) (by (simp only [setn, List.nil_append, List.cons_append, leF, leH_nil, leH_cons, leF_nil, lk, scp, scpL, scpO, resF, resH, resO, resV, resVL, nth, Nat.reduceBEq, Nat.reduceLT, decide_true, decide_false, List.length, List.length_cons, List.length_nil, Nat.reduceAdd, Bool.and_self, Bool.and_true, and_true, true_and, numF] <;> try simp))) (Over.refl _) rfl rfl
    | false =>
     simp only [bsv]
     (refine Y_go 600 ?_; dsimp only [zq8t, Y_k, zq4u, zq8o, zq6n, Nat.reduceBEq, zq6k, YK, zq9i, normF, zq6l, zq6m, zq86, zq8a, zq89, zq87, zq8d, zq8c, zq8h, zq8f, zq9s, zq6g, YC, zq9y, t39n4, T39n4, zq9r, zq9q, zq5t, zq3t, zq3q, zq6h, zq8x, t39n3, T39n3, zq5a, zq14, Nat.reduceAdd, zq5c, zq1o, nth, zq1k, List.length_cons, List.length_nil, dropL, takeL, zq19, zq18, zq5g, List.map, zq6q, zq6u, zq6p, zq21, zq7u, zq73, zq0a, zq20, splice, setn, zq8p, zq22, zq25, zq60, List.cons_append, List.nil_append, zq6v, zq7t, zq8l, zq8m, zq77, zq7i, zq8k, zq83, zq7p, zq5f, zq1z, t39n2, T39n2, zq64, den, blk, zq4j, zq00, zq92, zq4i, zq8s, t39n1, T39n1, zq5h, zq6t, repL, zq23, Nat.reduceMul, zq7y, zq7k, zq24, zq26, zq5l, zq2w, zq09, zq08, zq2s, zq9b, zq2r, zq2n, zq2j, zq2k, denL, zq2l, zq2h, zq9u, popTo, zq6i, YP, zq4w, zq04, zq0e, zqa2, zq9p, zqa1, t39n7, T39n7, zq17, zq9j])
     refine ⟨fun _ g1 g2 => ⟨opV_keys _ _, fun g3 => ⟨⟨by simp only [maxLen]; omega, by omega⟩, fun A5 c5 => ⟨((n + 1 : Nat) : Int), ArOk.to (by omega) (by omega) (by omega), lend_rule fun a W rep => ?_⟩⟩⟩, fun hb => absurd hb (by simp)⟩
     have hst : sp h (n + 1) = some ⟨s.out ++ [newA e n], s.op ++ [(e.core, s.out.length)]⟩ := by rw [hnext]; unfold Hs.stepS; rw [hc, hm, hp, ho]; rfl
     have hmp : mput (opV z s.op) (.int .i64 e.core) (.pointer (some ⟨g2, 0, none⟩)) = opV (z ++ [(newA e n, ⟨g2, g1, none, 0, none, 0⟩)]) (s.op ++ [(e.core, s.out.length)]) := by
      rw [mput_op _ _ _ _ ho]
      have e1 := opV_snoc (z := z) s.op (newA e n, ⟨g2, g1, none, 0, none, 0⟩) fun q hq => by
       obtain ⟨y, hy, _⟩ := hok.open_ q.1 q.2 hq
       rw [hzl]; exact (List.getElem?_eq_some_iff.1 hy).1
      have e2 : (ptrs (z ++ [(newA e n, (⟨g2, g1, none, 0, none, 0⟩ : Hd))])).getD s.out.length (.pointer none) = .pointer (some ⟨g2, 0, none⟩) := by
       rw [ptrs_snoc, List.getD_eq_getElem?_getD, ← hzl]
       simp [ptrs, ptrH]
      unfold opV at e1 ⊢
      rw [List.map_append, e1, List.map_cons, List.map_nil, e2]
     rw [hmp] at rep
     have r1 : Rep ⟨W0, W0.heap.size, fps [.map gm (opV z s.op), .own 94 0 1 oA z.length oc (ptrs z)], 67, []⟩ { F := [(0, .val (.slice A h.length c)), (4, .own 1 0), (5, .mp 0), (10, .val (.slice A h.length c)), (11, .val (.int .i64 h.length)), (12, .val (.int .i64 ((n + 1 : Nat) : Int)))], H := [.map gm (opV (z ++ [(newA e n, ⟨g2, g1, none, 0, none, 0⟩)]) (s.op ++ [(e.core, s.out.length)])), .own 94 0 1 A5 (z.length + 1) c5 (ptrs z ++ [ptrH ⟨g2, g1, none, 0, none, 0⟩])] ++ quad 114 85 (newA e n) ⟨g2, g1, none, 0, none, 0⟩ } a W := by
      have q := ((rep.res.nilH 85 2).nilH 85 2).torow 4 (g := g2) (t := 114) (xs := cellsA (newA e n) ⟨g2, g1, none, 0, none, 0⟩) rfl rfl
      exact (q.pick [0, 1, 4, 3, 6, 7] (by decide)).le (by (simp only [renF, renV, renVL, renO, pickH, pickE, posOf, setn, List.nil_append, List.cons_append, leF, leH_nil, leH_cons, leF_nil, lk, scp, scpL, scpO, resF, resH, resO, resV, resVL, nth, Nat.reduceBEq, Nat.reduceLT, decide_true, decide_false, List.length, List.length_cons, List.length_nil, Nat.reduceAdd, Bool.and_self, Bool.and_true, and_true, true_and, numF] <;> try simp)) (by simp only [quad]; (simp only [renF, renV, renVL, renO, pickH, pickE, posOf, setn, List.nil_append, List.cons_append, leF, leH_nil, leH_cons, leF_nil, lk, scp, scpL, scpO, resF, resH, resO, resV, resVL, nth, Nat.reduceBEq, Nat.reduceLT, decide_true, decide_false, List.length, List.length_cons, List.length_nil, Nat.reduceAdd, Bool.and_self, Bool.and_true, and_true, true_and, numF] <;> try simp); exact ⟨rfl, rfl, ⟨rfl, rfl⟩, rfl, rfl⟩)
     have r2 := Rep.back hW0 (famQ_shut _ _ _) r1 (Over.refl _) rfl rfl
     have r3 := Rep.fam' (b := [.map gm (opV (z ++ [(newA e n, ⟨g2, g1, none, 0, none, 0⟩)]) (s.op ++ [(e.core, s.out.length)])), .own 94 0 1 A5 (z.length + 1) c5 (ptrs z ++ [ptrH ⟨g2, g1, none, 0, none, 0⟩])]) (r := quad 114 85 (newA e n) ⟨g2, g1, none, 0, none, 0⟩ ++ famQ 114 85 z) r2 (by (simp only [setn, List.nil_append, List.cons_append, leF, leH_nil, leH_cons, leF_nil, lk, scp, scpL, scpO, resF, resH, resO, resV, resVL, nth, Nat.reduceBEq, Nat.reduceLT, decide_true, decide_false, List.length, List.length_cons, List.length_nil, Nat.reduceAdd, Bool.and_self, Bool.and_true, and_true, true_and, numF] <;> try simp)) rfl (fun e he => by
      rcases List.mem_append.1 he with h2 | h2
      ·exact quad_shut _ _ _ _ e h2
      ·exact famQ_shut _ _ _ e h2) List.perm_append_comm
     refine again ⟨n + 1, _, z ++ [(newA e n, ⟨g2, g1, none, 0, none, 0⟩)], A5, c5, gm⟩ ⟨hlt, hst, by simp [hz]⟩ (by simp only; omega) a W ?_
     simp only [famQ_snoc, ptrs_snoc, List.length_append, List.length_cons, List.length_nil]
     exact r3
  | some i =>
   obtain ⟨x, h1, h2, h3, h4, h5, h6⟩ := hok.cur ho
   obtain ⟨hd, hzi⟩ : ∃ hd, z[i]? = some (x, hd) := by
    rw [← hz, List.getElem?_map] at h1
    cases hq : z[i]? with
    | none => rw [hq] at h1; cases h1
    | some p => rw [hq] at h1; injection h1 with h1; exact ⟨p.2, by rw [← h1]⟩
   have hiz : i < z.length := (List.getElem?_eq_some_iff.1 hzi).1
   have hlx := hlens x (List.mem_of_getElem? h1)
   refine G.le (E' := ⟨w, w.heap.size, [], 67, []⟩) rfl (s' := { F := [(0, .val (.slice A h.length c)), (4, .own 1 0), (5, .mp 0), (10, .val (.slice A h.length c)), (11, .val (.int .i64 h.length)), (12, .val (.int .i64 n))], H := [.map gm (opV z s.op), .own 94 0 1 oA z.length oc (ptrs z)] ++ (quad 114 85 x hd ++ famQ 114 85 (z.eraseIdx i)) }) (fun a W rep => rep.fam' (by (simp only [setn, List.nil_append, List.cons_append, leF, leH_nil, leH_cons, leF_nil, lk, scp, scpL, scpO, resF, resH, resO, resV, resVL, nth, Nat.reduceBEq, Nat.reduceLT, decide_true, decide_false, List.length, List.length_cons, List.length_nil, Nat.reduceAdd, Bool.and_self, Bool.and_true, and_true, true_and, numF] <;> try simp)) rfl (famQ_shut _ _ _) (famQ_out 114 85 hzi)) ?_
   refine G.cut (F := [(0, .val (.slice A h.length c)), (4, .own 1 0), (5, .mp 0), (10, .val (.slice A h.length c)), (11, .val (.int .i64 h.length)), (12, .val (.int .i64 n))]) (H1 := [.map gm (opV z s.op), .own 94 0 1 oA z.length oc (ptrs z)] ++ quad 114 85 x hd) (r := famQ 114 85 (z.eraseIdx i)) rfl (by simp only [quad, List.cons_append, List.nil_append]; (simp only [setn, List.nil_append, List.cons_append, leF, leH_nil, leH_cons, leF_nil, lk, scp, scpL, scpO, resF, resH, resO, resV, resVL, nth, Nat.reduceBEq, Nat.reduceLT, decide_true, decide_false, List.length, List.length_cons, List.length_nil, Nat.reduceAdd, Bool.and_self, Bool.and_true, and_true, true_and, numF] <;> try simp)) fun W0 hW0 hov => ?_
   generalize hst0 : fps ([.map gm (opV z s.op), .own 94 0 1 oA z.length oc (ptrs z)] ++ quad 114 85 x hd) = st0 at hov ⊢
   have hAE : RowE ⟨W0, W0.heap.size, st0, 67, []⟩ A (cellsE h) := (hA.toE (by simp) 67 []).over hov
   have cl : ∀ k v, e.cells[k]? = some v → CellAt ⟨W0, W0.heap.size, st0, 67, []⟩ A ((n : Int).toNat * 9 + k) v := by
    intro k v hk
    rw [Int.toNat_natCast]
    obtain ⟨_, rfl⟩ := List.getElem?_eq_some_iff.1 he
    exact hAE.cell (by rw [cellsE_get h hlt (List.getElem?_eq_some_iff.1 hk).1]; exact hk)
   simp only [quad, List.cons_append, List.nil_append]
   (refine Y_go 600 ?_; dsimp only [zq9y, t39n13, T39n13, zq9r, zq9q, Y_k, zq50, zq8o, zq6n, Nat.reduceBEq, zq6l, zq6k, zq04, zq92, zq9b, zq0i, zq9e, YK, zq8t, zq9i, normF, zq6m, zq86, zq87, zq8h, zq8f, t39n12, T39n12, zq9s, zq6h, zq8x, YC, zq9p, t39n11, T39n11, zq9t, zq4u, zq58, zq06, zq0w, zq5c, zq1p, zq1c, List.nil_append, List.cons_append, zq1b, zq17, zq5e, List.length_cons, List.length_nil, Nat.reduceAdd, List.map, zq6q, zq5d, zq7t, zq8l, zq73, zq8m, zq8k, zq0a, zq1x, nth, zq1t, dropL, takeL, zq1r, splice, setn, zq8s, zq89, zq8c, t39n10, T39n10, zq5a, zq14, zq1o, zq1k, zq19, zq18, zq61, zq4h, zq00, zq4g, zq4f, t39n9, T39n9, zq9j, zq9u, popTo, zq6i, YP, t39n14, T39n14, zq8p, zq8a, zq9x])
   refine ⟨fun _ => ?_, fun hb => absurd (of_decide_eq_false hb) (by omega)⟩
   refine ⟨⟨by omega, by omega, hAE.isSome (j := n * 9) (by rw [cellsE_len]; omega)⟩, _, cl 0 _ rfl, _, cl 1 _ rfl, _, cl 2 _ rfl, _, cl 3 _ rfl, _, cl 4 _ rfl, _, cl 5 _ rfl, _, cl 6 _ rfl, _, cl 7 _ rfl, _, cl 8 _ rfl, fun g => ⟨opV_keys _ _, some (ptrH hd), by rw [mget_op, ho]; simp only [Option.map_some]; rw [List.getD_eq_getElem?_getD, ptrs_get hzi]; rfl, .ptr 2 0, rfl, ?_⟩⟩
   refine call_val (R := fun v => v = .bool (mayB e (some x))) (vs := [e.val, ptrH hd]) rfl (fun W hW => may69_some e x hd _ W (hW.cellsRow (i := 2) rfl)) fun v hv => ⟨bsv (mayB e (some x)), by rw [hv]; cases mayB e (some x) <;> simp [Is, bsv], ?_⟩
   cases hm : mayB e (some x) with
   | false =>
    have hno : sp h (n + 1) = none := by rw [hnext]; unfold Hs.stepS; rw [h3, hm]; rfl
    simp only [bsv]
    (refine Y_go 600 ?_; dsimp only [zq8c, zq6n, Nat.reduceBEq, zq6k, zq8t, Y_k, zq53, zq8o, zq0n, YK, zq9i, normF, zq6l, zq6m, zq86, zq89, zq87, zq8h, zq8f, zq9s, zq6f, YC, zq9y, t39n0, T39n0, zq9r, zq9q, zq4u, zq8p, zq6u, zq6q, zq9x])
    refine ret_rule (vs := [.slice none 0 0, .int .i64 120]) r39 rfl rfl fun W hW => hR _ _ (.inl ⟨?_, rfl, ?_⟩)
    ·unfold splitL; rw [sp_none hno hlt]; rfl
    ·exact (hov.heap hW).fresh'
   | true =>
    have hk := may_own hm
    have hp : plainB e = false := by rw [plainF]; omega
    simp only [bsv]
    (refine Y_go 600 ?_; dsimp only [zq8c, zq6n, Nat.reduceBEq, zq6k, zq8t, Y_k, zq53, zq8o, zq0m, YK, zq9i, normF, zq6l, zq6m, zq86, zq8a, zq89, zq87, zq8h, zq8f, zq9s, zq6g, YC, zq9p, zq9y, t39n8, T39n8, zq9r, zq9t, zq9q, zq5c, zq1o, nth, zq1k, List.length_cons, List.length_nil, Nat.reduceAdd, dropL, takeL, zq19, zq17, zq9j])
    refine call_val (R := fun v => v = .bool (plainB e)) (vs := [e.val]) rfl (fun W hW => plain55 e W) fun v hv => ⟨.bf, by rw [hv, hp]; simp [Is], ?_⟩
    (refine Y_go 600 ?_; dsimp only [zq8t, Y_k, zq4u, zq8o, zq6n, Nat.reduceBEq, zq6k, YK, zq9i, normF, zq6l, zq6m, zq86, zq8a, zq89, zq87, zq8c, zq8h, zq8f, zq9s, zq6g, YC, zq9y, t39n4, T39n4, zq9r, zq9q, zq5t, zq3s, zq3q, zq6h, zq8x, t39n3, T39n3, zq5a, zq14, Nat.reduceAdd, zq5c, zq1o, nth, zq1k, List.length_cons, List.length_nil, dropL, takeL, zq19, zq18, zq5g, List.map, zq6q, zq6u, zq6p, zq21, zq7u, zq73, zq0a, zq20, splice, setn, zq8p, zq22, zq25, zq60, List.cons_append, List.nil_append, zq6v, zq7t, zq8l, zq8m, zq77, zq7i, zq8k, zq83, zq7p, zq5f, zq1z, t39n2, T39n2, zq64, den, blk, zq4j, zq00, zq92, zq4i, zq8s, t39n1, T39n1, zq5h, zq6t, repL, zq23, Nat.reduceMul, zq7y, zq7k, zq24, zq26, zq5l, zq2w, zq09, zq08, zq2s, zq9b, zq2r, zq2n, zq2j, zq2k, denL, zq2l, zq2h, zq9u, popTo, zq6i, YP, zq4w, zq04, zq0e, zqa2, zq9p, zqa1, t39n7, T39n7, zq17, zq9j])
    refine ⟨fun hb => absurd hb (by simp), fun _ => ?_⟩
    refine G.le (E' := ⟨W0, W0.heap.size, st0, 67, []⟩) rfl (s' := { F := [(54, .agg e.sv), (53, .val (.int .i64 n)), (52, .ptr 0 0), (0, .val (.slice A h.length c)), (4, .own 5 0), (5, .mp 4), (7, .ptr 6 0), (8, .ptr 0 0), (10, .val (.slice A h.length c)), (11, .val (.int .i64 h.length)), (12, .val (.int .i64 n))], H := quad 114 85 x hd ++ [.map gm (opV z s.op), .own 94 0 1 oA z.length oc (ptrs z), .cells g 53 e.sv] }) (fun a W rep => (rep.pick [2, 3, 4, 5, 0, 1, 6] (by decide)).le (by simp only [Ev.sv, quad]; (simp only [renF, renV, renVL, renO, pickH, pickE, posOf, setn, List.nil_append, List.cons_append, leF, leH_nil, leH_cons, leF_nil, lk, scp, scpL, scpO, resF, resH, resO, resV, resVL, nth, Nat.reduceBEq, Nat.reduceLT, decide_true, decide_false, List.length, List.length_cons, List.length_nil, Nat.reduceAdd, Bool.and_self, Bool.and_true, and_true, true_and, numF] <;> try simp)) (by simp only [quad, Ev.sv]; (simp only [renF, renV, renVL, renO, pickH, pickE, posOf, setn, List.nil_append, List.cons_append, leF, leH_nil, leH_cons, leF_nil, lk, scp, scpL, scpO, resF, resH, resO, resV, resVL, nth, Nat.reduceBEq, Nat.reduceLT, decide_true, decide_false, List.length, List.length_cons, List.length_nil, Nat.reduceAdd, Bool.and_self, Bool.and_true, and_true, true_and, numF] <;> try simp))) ?_
    refine call_lent (quad 114 85 x hd) [.map gm (opV z s.op), .own 94 0 1 oA z.length oc (ptrs z), .cells g 53 e.sv] (vs := [ptrH hd, .int .i64 n, e.val]) (fun v H1' => v = .tuple #[] ∧ ∃ h' : Hd, h'.g = hd.g ∧ h'.t = hd.t ∧ H1' = (quad 114 85 (hearA x n e) h').map (verO 1)) rfl rfl (fun W _ hW => (hear70 x hd n e (by omega) (by omega) hW).mono fun v W' ⟨hv, h', k1, k2, k3⟩ => ⟨_, ⟨hv, h', k1, k2, rfl⟩, ?_, rfl, k3.vers (quad_shut _ _ _ _) 1⟩) fun v H1' ⟨hv, h', k1, k2, hH⟩ => ⟨.tup [], by rw [hv]; simp [Is, IsL], ?_⟩
    ·exact extB_spec (by simp [extB, quad, verO, SO.blk, bump, k1, k2])
    subst hH
    refine G.le (E' := ⟨W0, W0.heap.size, st0, 67, []⟩) rfl (s' := { F := [(0, .val (.slice A h.length c)), (4, .own 5 0), (5, .mp 4), (7, .ptr 6 0), (8, .ptr 0 0), (10, .val (.slice A h.length c)), (11, .val (.int .i64 h.length)), (12, .val (.int .i64 n))], H := quad 114 85 (hearA x n e) h' ++ [.map gm (opV z s.op), .own 94 0 1 oA z.length oc (ptrs z), .cells g 53 e.sv] }) (fun a W rep => rep.res.le (by simp only [quad, verO, Ev.sv, List.map_cons, List.map_nil, putF]; (simp only [setn, List.nil_append, List.cons_append, leF, leH_nil, leH_cons, leF_nil, lk, scp, scpL, scpO, resF, resH, resO, resV, resVL, nth, Nat.reduceBEq, Nat.reduceLT, decide_true, decide_false, List.length, List.length_cons, List.length_nil, Nat.reduceAdd, Bool.and_self, Bool.and_true, and_true, true_and, numF] <;> try simp)) (by simp only [quad, verO, Ev.sv, List.map_cons, List.map_nil]; (simp only [setn, List.nil_append, List.cons_append, leF, leH_nil, leH_cons, leF_nil, lk, scp, scpL, scpO, resF, resH, resO, resV, resVL, nth, Nat.reduceBEq, Nat.reduceLT, decide_true, decide_false, List.length, List.length_cons, List.length_nil, Nat.reduceAdd, Bool.and_self, Bool.and_true, and_true, true_and, numF] <;> try simp))) ?_
    have hst : sp h (n + 1) = some ⟨s.out.set i (hearA x n e), if (hearA x n e).to ≥ 0 then opDel s.op e.core else s.op⟩ := by
     rw [hnext]; unfold Hs.stepS; rw [h3, hm, hp, ho]
     show some (⟨s.out.set i (hearA (s.out.getD i default) n e), if (hearA (s.out.getD i default) n e).to ≥ 0 then opDel s.op e.core else s.op⟩ : St) = _
     rw [h2]
    have hzm : (z.set i (hearA x n e, h')).map (·.1) = s.out.set i (hearA x n e) := by rw [List.map_set, hz]
    have hptr : ptrs (z.set i (hearA x n e, h')) = ptrs z := ptrs_set hzi _ _ k1
    have fin : ∀ (op' : List (Int × Nat)) (F : List (Nat × SV)) (r : List SO) (a : Act) (W : World), op' = (if (hearA x n e).to ≥ 0 then opDel s.op e.core else s.op) → Rep ⟨W0, W0.heap.size, st0, 67, []⟩ { F := [(0, .val (.slice A h.length c)), (4, .own 1 0), (5, .mp 0), (10, .val (.slice A h.length c)), (11, .val (.int .i64 h.length)), (12, .val (.int .i64 ((n + 1 : Nat) : Int)))], H := [.map gm (opV z op'), .own 94 0 1 oA z.length oc (ptrs z)] ++ quad 114 85 (hearA x n e) h' } a W → I a W := by
     intro op' F r a W hop r1
     subst hop
     have r2 := Rep.back hW0 (famQ_shut _ _ _) r1 (by rw [hst0]; exact Over.refl _) rfl rfl
     have r3 := Rep.fam' (b := [.map gm (opV z (if (hearA x n e).to ≥ 0 then opDel s.op e.core else s.op)), .own 94 0 1 oA z.length oc (ptrs z)]) (r := quad 114 85 (hearA x n e) h' ++ famQ 114 85 (z.eraseIdx i)) r2 (by (simp only [setn, List.nil_append, List.cons_append, leF, leH_nil, leH_cons, leF_nil, lk, scp, scpL, scpO, resF, resH, resO, resV, resVL, nth, Nat.reduceBEq, Nat.reduceLT, decide_true, decide_false, List.length, List.length_cons, List.length_nil, Nat.reduceAdd, Bool.and_self, Bool.and_true, and_true, true_and, numF] <;> try simp)) rfl (fun e he => by
      rcases List.mem_append.1 he with h2 | h2
      ·exact quad_shut _ _ _ _ e h2
      ·exact famQ_shut _ _ _ e h2) (famQ_in 114 85 _ _ hiz)
     refine again ⟨n + 1, _, z.set i (hearA x n e, h'), oA, oc, gm⟩ ⟨hlt, hst, hzm⟩ (by simp only; omega) a W ?_
     simp only [hptr, List.length_set, opV_eq _ hptr]
     exact r3
    simp only [quad, Ev.sv, List.cons_append, List.nil_append]
    (refine Y_go 600 ?_; dsimp only [zq9i, normF, zq6n, Nat.reduceBEq, zq6k, zq6l, zq6m, zq86, zq87, zq8c, zq8h, zq8f, zq9y, t39n6, T39n6, zq9r, zq9q, Y_k, zq4u, zq8o, YK, zq8t, zq5i, zq29, zq5a, zq14, Nat.add_zero, Nat.reduceAdd, zq5c, zq1o, nth, zq1l, zq1c, List.nil_append, zq1b, zq18, zq50, zq8p, zq6q, zq04, zq92, zq9b, zq0i, zq9h, zq9s, zq6h, zq8x, YC, t39n5, T39n5, zq1k, List.length_cons, List.length_nil, dropL, takeL, zq19, zq65, zq4l, zq00, zq4k, setn, zq8s, zq89, zqa1, zq4w, zq0e, zqa2, zq9p, zq8a])
    refine ⟨_, rfl, fun hto => ⟨opV_keys _ _, ((n + 1 : Nat) : Int), ArOk.to (by omega) (by omega) (by omega), lend_rule fun a W rep => ?_⟩, fun hto => ⟨((n + 1 : Nat) : Int), ArOk.to (by omega) (by omega) (by omega), lend_rule fun a W rep => ?_⟩⟩
    ·rw [mrem_op] at rep
     exact fin (opDel s.op e.core) [] [] a W (by rw [if_pos (of_decide_eq_true hto)]) ((rep.res.pick [4, 5, 0, 1, 2, 3] (by decide)).le (by simp only [quad]; (simp only [renF, renV, renVL, renO, pickH, pickE, posOf, setn, List.nil_append, List.cons_append, leF, leH_nil, leH_cons, leF_nil, lk, scp, scpL, scpO, resF, resH, resO, resV, resVL, nth, Nat.reduceBEq, Nat.reduceLT, decide_true, decide_false, List.length, List.length_cons, List.length_nil, Nat.reduceAdd, Bool.and_self, Bool.and_true, and_true, true_and, numF] <;> try simp)) (by simp only [quad]; (simp only [renF, renV, renVL, renO, pickH, pickE, posOf, setn, List.nil_append, List.cons_append, leF, leH_nil, leH_cons, leF_nil, lk, scp, scpL, scpO, resF, resH, resO, resV, resVL, nth, Nat.reduceBEq, Nat.reduceLT, decide_true, decide_false, List.length, List.length_cons, List.length_nil, Nat.reduceAdd, Bool.and_self, Bool.and_true, and_true, true_and, numF] <;> try simp)))
    ·exact fin s.op [] [] a W (by rw [if_neg (of_decide_eq_false hto)]) ((rep.res.pick [4, 5, 0, 1, 2, 3] (by decide)).le (by simp only [quad]; (simp only [renF, renV, renVL, renO, pickH, pickE, posOf, setn, List.nil_append, List.cons_append, leF, leH_nil, leH_cons, leF_nil, lk, scp, scpL, scpO, resF, resH, resO, resV, resVL, nth, Nat.reduceBEq, Nat.reduceLT, decide_true, decide_false, List.length, List.length_cons, List.length_nil, Nat.reduceAdd, Bool.and_self, Bool.and_true, and_true, true_and, numF] <;> try simp)) (by simp only [quad]; (simp only [renF, renV, renVL, renO, pickH, pickE, posOf, setn, List.nil_append, List.cons_append, leF, leH_nil, leH_cons, leF_nil, lk, scp, scpL, scpO, resF, resH, resO, resV, resVL, nth, Nat.reduceBEq, Nat.reduceLT, decide_true, decide_false, List.length, List.length_cons, List.length_nil, Nat.reduceAdd, Bool.and_self, Bool.and_true, and_true, true_and, numF] <;> try simp)))
end Go.Proofs.Ytbkpiljencaoeaa
