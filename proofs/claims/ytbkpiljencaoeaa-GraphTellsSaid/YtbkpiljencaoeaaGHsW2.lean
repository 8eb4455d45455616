/- hist: an attempt hears an event. -/
import Derived.Test.YtbkpiljencaoeaaGHsW1
import Derived.Test.YtbkpiljencaoeaaGHsCode
set_option linter.unusedSimpArgs false
set_option linter.unusedVariables false
set_option linter.unnecessarySimpa false
namespace Go.Proofs.Ytbkpiljencaoeaa
open Go Go.Sx Go.Hs
set_option maxRecDepth 100000
def svA (x : At) : List SV := [.val (.int .i64 x.core), .val (.int .i64 x.block), .val (.int .i64 x.tr), .val (.int .i64 x.lane), .val (.int .i64 x.frm), .val (.int .i64 x.point), .val (.int .i64 x.to), .own 2 0, .own 3 0, .val (.bool x.com), .val (.int .i64 x.code), .val (.bool x.odd), .mp 1]
def quadS (x : At) (h : Hd) : List SO := [.cells h.g 114 (svA x), .map h.t (tcV x.touched), .own 85 0 2 h.lA x.loads.length h.lc (cellsPr x.loads), .own 85 0 2 h.sA x.stores.length h.sc (cellsPr x.stores)]
theorem own_is {H : List SO} {i sz n c : Nat} {t : TypeId} {A : Option Addr} {xs : List Value} (hi : nth H i = some (.own t 0 sz A n c xs)) : Is H (.own i 0) (.slice A n c) := by
 simp only [Is]; exact ⟨_, _, _, _, _, _, _, hi, Nat.le_refl _, ⟨_, _, _, rfl⟩, fun _ => rfl⟩
theorem quad_cells {E : Env} {F : List (Nat × SV)} {x : At} {h : Hd} {a : Act} {W : World} (rep : Rep E { F := F, H := quad 114 85 x h } a W) : Rep E { F := F, H := quadS x h } a W := by
 refine rep.rowTo 0 (l := svA x) rfl ?_
 simp only [svA, cellsA, IsL]
 refine ⟨_, _, rfl, ⟨_, _, rfl, ⟨_, _, rfl, ⟨_, _, rfl, ⟨_, _, rfl, ⟨_, _, rfl, ⟨_, _, rfl, ⟨_, _, own_is rfl, ⟨_, _, own_is rfl, ⟨_, _, rfl, ⟨_, _, rfl, ⟨_, _, rfl, ⟨_, _, ?_, rfl, rfl⟩, rfl⟩, rfl⟩, rfl⟩, rfl⟩, rfl⟩, rfl⟩, rfl⟩, rfl⟩, rfl⟩, rfl⟩, rfl⟩, rfl⟩
 simp only [Is]; exact ⟨_, rfl, rfl⟩
theorem quad_row {E : Env} {F : List (Nat × SV)} {y : At} {h : Hd} {r : List SO} {a : Act} {W : World} (rep : Rep E { F := F, H := quadS y h ++ r } a W) : Rep E { F := [], H := quad 114 85 y h } a W := by
 have r1 : Rep E { F := [], H := quadS y h } a W := rep.le (by (simp only [setn, List.nil_append, List.cons_append, leF, leH_nil, leH_cons, leF_nil, lk, scp, scpL, scpO, resF, resH, resO, resV, resVL, nth, Nat.reduceBEq, Nat.reduceLT, decide_true, decide_false, List.length, List.length_cons, List.length_nil, Nat.reduceAdd, Bool.and_self, Bool.and_true, and_true, true_and, numF] <;> try simp)) (leH_app (H := quadS y h) (by intro e he; simp only [quadS, List.mem_cons, List.not_mem_nil, or_false] at he; rcases he with rfl | rfl | rfl | rfl <;> rfl))
 exact r1.torow 0 (g := h.g) (t := 114) (l := svA y) (xs := cellsA y h) rfl rfl
theorem load77 {E0 : Env} {W : World} (x : At) (h : Hd) (e : Ev) (hl : x.loads.length ≤ 1000000) (hs : x.stores.length ≤ 1000000) (hW : HeapOk E0 (quad 114 85 x h) W) :
  CallsV Try.prog 74 [ptrH h, e.val] W fun v W' => v = .tuple #[] ∧ ∃ h' : Hd, h'.g = h.g ∧ h'.t = h.t ∧ HeapOk E0 (quad 114 85 (loadA x e) h') W' := by
 obtain ⟨b0, N, st, nt0, mk0⟩ := E0
 refine calls_lent (keep := K74) (nt := 67) (svs := [.ptr 0 0, .agg e.sv]) Try.func74 x74 n74 (by simp) hW ?_ fun R hR => ?_
 ·simp only [IsL]
  exact ⟨_, _, by simp only [Is]; exact ⟨_, rfl, rfl⟩, ⟨_, _, Ev.is _ e, rfl, rfl⟩, rfl⟩
 refine G.le (E' := ⟨b0, N, st, 67, []⟩) rfl (s' := { F := numF 0 [.ptr 0 0, .agg e.sv], H := quadS x h }) (fun a W rep => quad_cells rep) ?_
 have fin : ∀ (F : List (Nat × SV)) (y : At) (h' : Hd) (r : List SO), y = loadA x e → h'.g = h.g → h'.t = h.t → RetG (cxOf Try.prog Try.f74 K74 T74 R) ⟨b0, N, st, 67, []⟩ { F := F, H := quadS y h' ++ r } := by
  intro F y h' r hy h1 h2 a W rep
  subst hy
  refine ret_rule (vs := []) r74 rfl rfl (fun W hW => hR _ _ ⟨rfl, h', h1, h2, ?_⟩) a W (quad_row rep)
  exact HeapOk.env (E := ⟨b0, N, st, 67, []⟩) (E' := ⟨b0, N, st, nt0, mk0⟩) rfl rfl rfl hW
 have finE : ∀ (F : List (Nat × SV)) (y : At) (h' : Hd), y = loadA x e → h'.g = h.g → h'.t = h.t → G (cxOf Try.prog Try.f74 K74 T74 R) ⟨b0, N, st, 67, []⟩ [] { F := F, H := quadS y h' } := by
  intro F y h' hy h1 h2 a W rep
  subst hy
  refine end_rule (vs := []) r74 rfl rfl (fun W hW => hR _ _ ⟨rfl, h', h1, h2, ?_⟩) a W (quad_row (r := []) rep)
  exact HeapOk.env (E := ⟨b0, N, st, 67, []⟩) (E' := ⟨b0, N, st, nt0, mk0⟩) rfl rfl rfl hW
 simp only [quadS, svA]
 (refine Y_go 600 ?_; dsimp only [X74, Ev.sv, numF, Nat.reduceAdd, zq9r, zq9q, Y_k, zq5f, zq8o, zq6n, Nat.reduceBEq, zq6l, zq6k, zq7t, List.length_cons, List.length_nil, zq8l, zq73, zq8m, zq8k, zq0a, zq1z, List.cons_append, List.nil_append, YK, zq8t, zq9i, normF, zq6m, zq86, zq8c, zq88, zq9y, t74n5, T74n5, zq4u, zq5i, zq29, zq5a, zq14, zq5c, zq1o, nth, zq1k, dropL, takeL, zq19, zq18, zq64, zq8p, zq6q, den, zq4j, zq00, zq92, zq4i, setn, zq8s, t74n4, T74n4, Nat.add_zero, zq9j])
 refine fun g => ⟨tcV_keys _, ?_⟩
 rw [mput_tc]
 refine call_val (R := fun v => v = .int .i64 (findI x.stores e.addr)) (vs := [.slice h.sA x.stores.length h.sc, .int .i64 e.addr]) rfl (fun W hW => find78 h.sA h.sc x.stores e.addr W (hW.rowAt' (i := 3) rfl) hs) fun v hv => ⟨.val (.int .i64 (findI x.stores e.addr)), by rw [hv]; simp [Is], ?_⟩
 (refine Y_go 600 ?_; dsimp only [zq8t, Y_k, zq50, zq8o, zq6n, Nat.reduceBEq, zq6k, zq8p, zq6q, zq04, zq92, zq9b, zq0i, zq9h, YK, zq9i, normF, zq6l, zq6m, zq86, zq87, zq8c, zq88, zq9s, zq6h, zq8x, YC, zq9x, zq9p, zq9y, t74n3, T74n3, zq9r, zq9q, zq4u, zq5i, zq29, zq5a, zq14, Nat.add_zero, Nat.reduceAdd, zq5c, zq1o, nth, zq1k, List.length_cons, List.length_nil, dropL, takeL, zq19, zq18, zq9j])
 refine ⟨fun hge => ?_, fun hge => ?_⟩
 ·rw [findI_nn] at hge
  obtain ⟨j, hj⟩ := Option.isSome_iff_exists.1 hge
  exact fin _ { x with touched := tch x.touched e.addr } h _ (by unfold loadA; rw [hj]) rfl rfl
 rw [findI_nn] at hge
 have hns : findN x.stores e.addr = none := by simpa using hge
 refine call_val (R := fun v => v = .int .i64 (findI x.loads e.addr)) (vs := [.slice h.lA x.loads.length h.lc, .int .i64 e.addr]) rfl (fun W hW => find78 h.lA h.lc x.loads e.addr W (hW.rowAt' (i := 2) rfl) hl) fun v hv => ⟨.val (.int .i64 (findI x.loads e.addr)), by rw [hv]; simp [Is], ?_⟩
 (refine Y_go 600 ?_; dsimp only [zq8t, Y_k, zq4u, zq8o, zq6n, Nat.reduceBEq, zq6k, YK, zq9i, normF, zq6l, zq6m, zq86, zq8a, zq87, zq8c, zq88, zq9y, t74n1, T74n1, zq9r, zq9q, zq50, zq8p, zq6q, zq04, zq92, zq9b, zq0i, zq9h, zq9s, zq6h, zq8x, YC, t74n0, T74n0, zq5i, zq29, zq5a, zq14, Nat.reduceAdd, zq5c, zq1o, nth, zq1k, List.length_cons, List.length_nil, dropL, takeL, zq19, zq18, Y_gk, zq6e, YS, zq6a, zq4v, zq6o, zq0b, zq5d, zq7v, zq7h, zq0a, zq1x, zq1t, zq1r, splice, setn, zq8s, zq89, zq9x, YR, zq6c, Nat.add_zero, zq58, zq06, zq0y, zq09, zq08, zq0v, zq15, zq13, zq1q, zq1n, zq1c, List.nil_append, zq1b, zq96, zq9d, zq0c, zq7u, zq7g, zq9p, t74n2, T74n2, zq5g, List.map, zq21, zq73, zq20, zq22, zq25, zq5h, repL, List.cons_append, zq23, Nat.reduceMul, zq7t, zq8l, zq8m, zq8k, zq24, zq26, zq5l, zq2w, zq2s, zq2r, zq2n, zq2j, zq2k, denL, den, zq2l, zq2h, zq81, zq7n, zqa3])
 refine ⟨fun hge => ?_, fun hge => ?_⟩
 ·rw [findI_nn] at hge
  obtain ⟨j, hj⟩ := Option.isSome_iff_exists.1 hge
  have hfi : findI x.loads e.addr = (j : Int) := by unfold findI; rw [hj]
  obtain ⟨hj1, _, _⟩ := findN_some hj
  have hlo : loadA x e = { x with touched := tch x.touched e.addr, odd := x.odd || !((x.loads.getD j (0, 0)).2 == e.value) } := by unfold loadA; rw [hns, hj]
  refine ⟨fun ho => ?_, fun ho => ⟨by omega, (x.loads.getD j (0, 0)).2, ?_, ?_⟩⟩
  ·intro a W rep
   exact fin _ { x with touched := tch x.touched e.addr, odd := true } h [_] (by rw [hlo, ho]; rfl) rfl rfl a W (rep.cellsTo 0 (l' := svA { x with touched := tch x.touched e.addr, odd := true }) rfl fun vs h => h)
  ·rw [hfi, Int.toNat_natCast, cellsPr_get _ hj1 (by omega), prs_get hj1]; rfl
  ·exact fin _ { x with touched := tch x.touched e.addr, odd := !((x.loads.getD j (0, 0)).2 == e.value) } h _ (by rw [hlo, ho]; rfl) rfl rfl
 ·rw [findI_nn] at hge
  have hnl : findN x.loads e.addr = none := by simpa using hge
  refine fun g1 => ⟨⟨by simp only [maxLen]; omega, by omega⟩, fun A c => ?_⟩
  intro a W rep
  have hlo : loadA x e = { x with touched := tch x.touched e.addr, loads := x.loads ++ [(e.addr, e.value)] } := by unfold loadA; rw [hns, hnl]
  have hc2 : cellsPr (x.loads ++ [(e.addr, e.value)]) = cellsPr x.loads ++ [.int .i64 e.addr, .int .u64 e.value] := by rw [cellsPr_app]; rfl
  refine finE [] (loadA x e) { h with lA := A, lc := c } rfl rfl rfl a W ?_
  rw [hlo]
  refine rep.res.le (by (simp only [setn, List.nil_append, List.cons_append, leF, leH_nil, leH_cons, leF_nil, lk, scp, scpL, scpO, resF, resH, resO, resV, resVL, nth, Nat.reduceBEq, Nat.reduceLT, decide_true, decide_false, List.length, List.length_cons, List.length_nil, Nat.reduceAdd, Bool.and_self, Bool.and_true, and_true, true_and, numF] <;> try simp)) ?_
  simp only [quadS, svA, hc2, List.length_append, List.length_cons, List.length_nil]
  (simp only [setn, List.nil_append, List.cons_append, leF, leH_nil, leH_cons, leF_nil, lk, scp, scpL, scpO, resF, resH, resO, resV, resVL, nth, Nat.reduceBEq, Nat.reduceLT, decide_true, decide_false, List.length, List.length_cons, List.length_nil, Nat.reduceAdd, Bool.and_self, Bool.and_true, and_true, true_and, numF] <;> try simp)
end Go.Proofs.Ytbkpiljencaoeaa
