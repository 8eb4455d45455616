/- CacheSets: the law's function. -/
import Derived.Test.YtimmobbginjkfaaCaW11
import Derived.Test.YtimmobbginjkfaaCaInv
import Derived.Test.YtimmobbginjkfaaCaLaw6
import Derived.Deep.Slices
import Derived.Test.YtimmobbginjkfaaCaCodeL
set_option linter.unusedSimpArgs false
set_option linter.unusedVariables false
set_option linter.unnecessarySimpa false
namespace Go.Proofs.Ytimmobbginjkfaa
open Go Go.Sx Go.Ca
set_option maxRecDepth 100000
theorem newC_zero6 {sets ways : Int} {c : Ca} (h : newC sets ways = some c) : (∀ j, c.sl j = zE) ∧ c.uses = 0 ∧ (c.sets : Int) = sets ∧ (c.ways : Int) = ways := by
 unfold newC at h
 split at h
 ·cases h
 ·rename_i hc
  injection h with h; subst h
  refine ⟨fun j => rfl, rfl, ?_⟩
  simp only [Bool.or_eq_true, decide_eq_true_eq] at hc
  constructor <;> simp <;> omega
theorem play_sw6 (c : Ca) : ∀ l : List Sp, (playC c l).sets = c.sets ∧ (playC c l).ways = c.ways := by
 intro l
 induction l generalizing c with
 | nil => exact ⟨rfl, rfl⟩
 | cons x l ih =>
  have h := step_like c x
  have := ih (stepC c x)
  exact ⟨this.1.trans h.s, this.2.trans h.w⟩
theorem GT_ca {C : Cx} {E : Env} {d : Option Nat} {f : FuncId} {args : List Operand} {j : Nat} {t : XT} {k : List KI} {F : List (Nat × SV)} {vs : List Value} (gc gs : Nat) (c c' : Ca) (val : Value) (sv : SV) (r : List SO) (hP : C.P = Try.prog) (hargs : denL (caF gc gs c ++ r) (evL F args) = some vs)
  (hc : ∀ W, HeapOk E (caF gc gs c ++ r) W → HeapOk ⟨W, W.heap.size, fps (caF gc gs c), 0, []⟩ (caF gc gs c) W → CallsV Try.prog f vs W fun v W' => v = val ∧ HeapOk ⟨W, W.heap.size, fps (caF gc gs c), 0, []⟩ (caF gc gs c') W') (hsv : ∀ H, Is H sv val)
  (next : GT C E k t { F := putF F d sv, H := caF gc gs c' ++ r }) :
  GT C E k (.seq { dst := d, guard := none, i := .call f args } j t) { F := F, H := caF gc gs c ++ r } := by
 refine GT_call hargs (R := fun W v W' => v = val ∧ HeapOk ⟨W, W.heap.size, fps (caF gc gs c), 0, []⟩ (caF gc gs c') W') (fun W hW => ?_) fun W v W' hW hk => ?_
 ·rw [hP]
  exact hc W hW (hW.lend (caF_pre gc gs c) 0 [])
 ·obtain ⟨rfl, hk⟩ := hk
  exact ⟨sv, caF gc gs c' ++ r, hsv _, HExt.front r (caF_ext gc gs c c') rfl, hW.unlend hk (caF_ext gc gs c c') rfl, next⟩
theorem RowAt.tail13 {w : World} {A : Option Addr} {c : Nat} {x : Sp} {l : List Sp} (h : RowAt w A (cellsS (x :: l))) (hc : l.length + 1 ≤ c) : RowAt w (subA A c 1 13) (cellsS l) := by
 intro j u hj
 have hjl := (List.getElem?_eq_some_iff.1 hj).1
 rw [cellsS_len] at hjl
 obtain ⟨a, rfl, hb, hcell⟩ := h (j + 13) u (by
  show (spV x ++ cellsS l)[j + 13]? = some u
  rw [List.getElem?_append_right (by simp [spV])]
  simpa [spV] using hj)
 unfold subA
 rw [if_neg (by omega)]
 refine ⟨a.add 13, rfl, by rw [add_block]; exact hb, ?_⟩
 rw [Go.Deep.add_add, show 13 + j = j + 13 by omega]; exact hcell
set_option maxHeartbeats 1000000 in
theorem law6 (sets ways : Int) (A : Option Addr) (ac : Nat) (l : List Sp) (w : World) (hac : l.length ≤ ac) (hA : RowAt w A (cellsS l)) :
  CallsV Try.prog 6 [.int .i64 sets, .int .i64 ways, .slice A l.length ac] w fun v w' => v = .bool true ∧ Fresh w w' := by
 refine calls_go (keep := K6) (nt := 194) (svs := [.val (.int .i64 sets), .val (.int .i64 ways), .val (.slice A l.length ac)]) Try.func6 x6 n6 (by simp) (by simp [IsL, Is]) fun R hR => ?_
 have hQ : NoPanic (endPost Try.prog Try.f6 R) := endPost_noPanic _ _ _
 (refine Y_go 600 ?_; dsimp only [X6, numF, Nat.reduceAdd, zq9r, zq9q, Y_k, zq4u, zq8p, zq6p, YK, zq8t, zq9i, normF, zq6n, Nat.reduceBEq, zq6l, zq6k, zq6m, zq86, zq8a, zq87, zq9y, t6n24, T6n24, zq9j])
 refine call_val (vs := []) rfl (R := fun v => v = .bool true) (fun W hW => alive7 W) fun v hv => ⟨.bt, by rw [hv]; simp [Is], ?_⟩
 dsimp only [zq8t]
 (refine Y_go 600 ?_; dsimp only [Y_k, zq4u, zq8o, zq6n, Nat.reduceBEq, zq6k, YK, zq8t, zq9i, normF, zq6l, zq6m, zq86, zq89, zq8a, zq87, zq9y, t6n23, T6n23, zq9r, zq9q, zq9j])
 have yes : ∀ (E : Env) s, E.marks = [] → Over ⟨w, w.heap.size, [], 194, []⟩ E → denAll s.H s.F [6] = some [.bool true] → RetG (cxOf Try.prog Try.f6 K6 T6 R) E s := fun E s hm ho h1 => ret_rule (vs := [.bool true]) r6 hm h1 fun W hW => hR _ _ ⟨rfl, (ho.heap hW).fresh'⟩
 refine call_rule (vs := [.int .i64 sets, .int .i64 ways]) rfl (R := fun W v W' => (newC sets ways = none ∧ v = .tuple #[.pointer none, .int .i64 2] ∧ Fresh W W') ∨ ∃ c gc gs, newC sets ways = some c ∧ v = .tuple #[.pointer (some ⟨gc, 0, none⟩), .int .i64 0] ∧ HeapOk ⟨W, W.heap.size, [], 28, []⟩ (caF gc gs c) W') (fun W hW => new8 sets ways W) fun W v W' hW hr => ?_
 rcases hr with ⟨_, hv, hf⟩ | ⟨c, gc, gs, hn, hv, hh⟩
 ·refine ⟨.tup [.val (.pointer none), .val (.int .i64 2)], _, by rw [hv]; simp [Is, IsL], HExt.refl _, hW.freshK hf, ?_⟩
  dsimp only [zq8t]
  (refine Y_go 600 ?_; dsimp only [Y_k, zq4u, zq8o, zq6n, Nat.reduceBEq, zq6k, YK, zq8t, zq5j, zq2f, nth, zq2e, zq6l, zq9i, normF, zq6m, zq86, zq87, zq89, zq8a, zq9y, t6n22, T6n22, zq9r, zq9q, zq50, zq8p, zq6q, zq04, zq92, zq9b, zq0i, zq9d, Y_gk, zq6e, YS, zq6a, zq4v, zq6o, zq0b, zq9s, zq6f, YC, t6n0, T6n0, zq9x, YR, zq6c, zq55, zq0r, zq9g, zq0c, zq9c, zq53, zq0m, zq6g, zq9p, t6n21, T6n21, zq5o, zq3b, zq06, zq38, zq3e, zq98, Int.reduceToNat, zq9j])
  exact ⟨fun _ => yes _ _ rfl (Over.refl _) rfl, fun h => absurd h (by decide)⟩
 refine ⟨.tup [.ptr 0 0, .val (.int .i64 0)], caF gc gs c, by rw [hv]; simp [Is, IsL, caF, blk, nth, SO.blk], HExt.nilTo _, heapJoin (H := []) (H2' := caF gc gs c) hW hh rfl fun e he => hh.ent he, ?_⟩
 clear hh hv hW
 have ok := newC_ok hn
 obtain ⟨hz, hu, hcs, hcw⟩ := newC_zero6 hn
 clear hn
 subst hcs
 subst hcw
 dsimp only [zq8t, caF]
 (refine Y_go 600 ?_; dsimp only [Y_k, zq4u, zq8o, zq6n, Nat.reduceBEq, zq6k, YK, zq8t, zq5j, zq2f, nth, zq2e, zq6l, zq9i, normF, zq6m, zq86, zq87, zq8c, zq89, zq8a, zq9y, t6n22, T6n22, zq9r, zq9q, zq50, zq8p, zq6q, zq04, zq92, zq9b, zq0i, zq9d, Y_gk, zq6e, YS, zq6a, zq4v, zq6o, zq0b, zq9s, zq6f, YC, t6n0, T6n0, zq9x, YR, zq6c, zq55, zq0r, zq9g, zq0c, zq9c, zq53, zq0m, zq6g, zq9p, t6n21, T6n21, zq5o, zq3b, zq06, zq38, zq3e, zq98, Int.reduceToNat, zq9j])
 refine ⟨fun h => absurd h (by decide), fun _ => ⟨fun _ => yes _ _ rfl (Over.refl _) rfl, fun h1 => ?_⟩⟩
 refine ⟨fun _ => yes _ _ rfl (Over.refl _) rfl, fun h2 => ⟨⟨by omega, ?_⟩, ?_⟩⟩
 ·have : l.length ≠ 0 := by intro h; rw [h] at h2; cases h2
  omega
 have hl : l.length ≤ 600 := by have := of_decide_eq_false h1; omega
 obtain ⟨x, l, rfl⟩ : ∃ x l', l = x :: l' := by
  cases l with
  | nil => cases h2
  | cons x l => exact ⟨x, l, rfl⟩
 clear h1 h2
 rw [List.length_cons] at hl hac
 have hA2 := RowAt.tail13 hA hac
 have hAE : RowE ⟨w, w.heap.size, [], 194, []⟩ A (cellsS (x :: l)) := hA.toE (st := []) (by simp) 194 []
 have hBE : RowE ⟨w, w.heap.size, [], 194, []⟩ (subA A ac 1 13) (cellsS l) := hA2.toE (st := []) (by simp) 194 []
 simp only [List.length_cons, Nat.add_sub_cancel]
 refine call_ca gc gs c (playC c l) _ .unk [] rfl (vs := [.pointer (some ⟨gc, 0, none⟩), .slice (subA A ac 1 13) l.length (ac - 1)]) rfl (fun W hW hh => play9 gc gs c ok (subA A ac 1 13) (ac - 1) l (by omega) (hBE.over (HeapOk.rebase (H := caF gc gs c) hW 0 []).2) hh) (fun _ => trivial) ?_
 obtain ⟨ok1, hu1⟩ := play_ok ok l (by omega)
 have iv1 : Inv (playC c l) := play_inv ok (inv_zero hz) l (by omega)
 have hsw := play_sw6 c l
 have hn1 : (playC c l).n = c.n := n_of hsw.1 hsw.2
 generalize playC c l = c1 at ok1 hu1 iv1 hsw hn1 ⊢
 dsimp only [zq8t, caF, List.cons_append, List.nil_append]
 (refine Y_go 600 ?_; dsimp only [zq9i, normF, zq6n, Nat.reduceBEq, zq6l, zq6k, zq6m, zq86, zq8a, zq87, zq8c, zq89, zq9y, t6n20, T6n20, zq9r, zq9q, Y_k, zq4u, zq8o, YK, zq8t, zq9j])
 refine call_all gc gs c1 ok1 [] rfl rfl fun es B bc hp hs => ?_
 have hel : es.length ≤ 32 := by rw [hp.length_eq]; exact Nat.le_trans (hlTo_len _ _) ok1.n32
 have hlt2 := es_lt iv1 hp hs
 dsimp only [caF, List.cons_append, List.nil_append, List.length_cons, List.length_nil, Nat.reduceAdd, zq8t]
 (refine Y_go 600 ?_; dsimp only [Y_k, zq4u, zq8o, zq6n, Nat.reduceBEq, zq6k, YK, zq8t, zq9i, normF, zq6l, zq6m, zq86, zq8a, zq8f, zq87, zq8c, zq89, zq9y, t6n19, T6n19, zq9r, zq9q, zq8p, zq6q, zq9t, zq9v])
 refine G.le (E' := ⟨w, w.heap.size, [], 194, []⟩) rfl (s' := { F := [(0, .val (.int .i64 c.sets)), (1, .val (.int .i64 c.ways)), (2, .val (.slice A (l.length + 1) ac)), (6, .bf), (7, .bt), (8, .ptr 0 0), (10, .val (.slice B es.length bc)), (11, .val (.int .i64 0))], H := caF gc gs c1 ++ [.own 44 0 21 B es.length bc (esV es)] }) (fun a W rep => (rep.plain 10 rfl rfl).le (by simp only [caF]; (simp only [setn, List.nil_append, List.cons_append, leF, leH_nil, leH_cons, leF_nil, lk, scp, scpL, scpO, resF, resH, resO, resV, resVL, nth, Nat.reduceBEq, Nat.reduceLT, decide_true, decide_false, List.length, List.length_cons, List.length_nil, Nat.reduceAdd, Bool.and_self, Bool.and_true, and_true, true_and, numF] <;> try simp)) (by simp only [caF]; (simp only [setn, List.nil_append, List.cons_append, leF, leH_nil, leH_cons, leF_nil, lk, scp, scpL, scpO, resF, resH, resO, resV, resVL, nth, Nat.reduceBEq, Nat.reduceLT, decide_true, decide_false, List.length, List.length_cons, List.length_nil, Nat.reduceAdd, Bool.and_self, Bool.and_true, and_true, true_and, numF] <;> try simp))) ?_
 refine G.cut (H1 := caF gc gs c1) (caF_scp gc gs c1) (by simp only [caF]; (simp only [setn, List.nil_append, List.cons_append, leF, leH_nil, leH_cons, leF_nil, lk, scp, scpL, scpO, resF, resH, resO, resV, resVL, nth, Nat.reduceBEq, Nat.reduceLT, decide_true, decide_false, List.length, List.length_cons, List.length_nil, Nat.reduceAdd, Bool.and_self, Bool.and_true, and_true, true_and, numF] <;> try simp)) fun W1 hW1 hov => ?_
 have hst : fps (caF gc gs c1) = [gc, gs] := rfl
 have hEE : RowE ⟨W1, W1.heap.size, [gc, gs], 194, []⟩ B (esV es) := hW1.offO (t := 44) (ver := 0) (sz := 21) (n := es.length) (c := bc) (by simp) 194 []
 replace hAE := hAE.over hov
 rw [hst] at hov hAE ⊢
 clear hW1 hBE
 have yes1 : ∀ s, denAll s.H s.F [6] = some [.bool true] → RetG (cxOf Try.prog Try.f6 K6 T6 R) ⟨W1, W1.heap.size, [gc, gs], 194, []⟩ s := fun s h1 => ret_rule (vs := [.bool true]) r6 rfl h1 fun W hW => hR _ _ ⟨rfl, (hov.heap hW).fresh'⟩
 have hEc : ∀ {i k m : Nat} {v : Value} (hi : i < es.length), m = (i : Int).toNat * 21 + k → (enV es[i])[k]? = some v → CellAt ⟨W1, W1.heap.size, [gc, gs], 194, []⟩ B m v := by
  intro i k m v hi hm hk
  have := (List.getElem?_eq_some_iff.1 hk).1
  rw [hm, Int.toNat_natCast]
  exact hEE.cell (by rw [esV_get es hi this]; exact hk)
 have sE : 0 < es.length → B.isSome = true := fun h => RowE.isSome hEE (j := 0) (by rw [esV_len]; omega)
 have hbe : ∀ {i : Nat}, i < es.length → 0 ≤ (i : Int) ∧ (i : Int) < (es.length : Int) ∧ B.isSome = true := fun {i} h => ⟨by omega, by omega, sE (by omega)⟩
 have hmem : ∀ (i : Nat) (hi : i < es.length), es[i] ∈ hlTo c1 c1.n := fun i hi => hp.mem_iff.1 (List.getElem_mem hi)
 have hnn : ∀ (i : Nat) (hi : i < es.length), 0 ≤ es[i].line ∧ (es[i].st = 1 ∨ es[i].st = 2) := fun i hi => by
  obtain ⟨j, hj, e, hs⟩ := hl_mem (hmem i hi)
  rw [← e] at hs ⊢
  exact ⟨(iv1.lo j hj hs).1, (iv1.st j hj).resolve_left hs⟩
 have hs0 : (0 : Int) < (c.sets : Int) := by have := ok.s1; omega
 have hmany : ∀ (i : Nat) (hi : i < es.length), manyE c.sets es[i].line es ≤ c.ways := fun i hi => by
  have := many_es ok1 iv1 hp (hnn i hi).1
  rw [hsw.1, hsw.2] at this
  exact this
 refine loop_go (α := Nat) (fun i => i ≤ es.length) (fun _ => ⟨W1, W1.heap.size, [gc, gs], 194, []⟩)
  (fun i => { F := [(0, .val (.int .i64 c.sets)), (1, .val (.int .i64 c.ways)), (2, .val (.slice A (l.length + 1) ac)), (6, .bf), (7, .bt), (8, .ptr 0 0), (10, .val (.slice B es.length bc)), (11, .val (.int .i64 i))], H := caF gc gs c1 }) (fun i => es.length - i) (fun _ => rfl) ?start ?round
 case start =>
  intro a W rep
  exact ⟨0, Nat.zero_le _, rep.le (by simp only [caF]; (simp only [setn, List.nil_append, List.cons_append, leF, leH_nil, leH_cons, leF_nil, lk, scp, scpL, scpO, resF, resH, resO, resV, resVL, nth, Nat.reduceBEq, Nat.reduceLT, decide_true, decide_false, List.length, List.length_cons, List.length_nil, Nat.reduceAdd, Bool.and_self, Bool.and_true, and_true, true_and, numF] <;> try simp)) (by simp only [caF]; (simp only [setn, List.nil_append, List.cons_append, leF, leH_nil, leH_cons, leF_nil, lk, scp, scpL, scpO, resF, resH, resO, resV, resVL, nth, Nat.reduceBEq, Nat.reduceLT, decide_true, decide_false, List.length, List.length_cons, List.length_nil, Nat.reduceAdd, Bool.and_self, Bool.and_true, and_true, true_and, numF] <;> try simp))⟩
 case round =>
  rintro i hi I again
  simp only [caF]
  (refine Y_go 600 ?_; dsimp only [zq9y, t6n10, T6n10, zq9r, zq9q, Y_k, zq4u, zq8o, zq6n, Nat.reduceBEq, zq6l, zq6k, YK, zq8t, zq55, zq0r, zq50, zq04, zq92, zq9b, zq0i, zq9e, zq9i, normF, zq6m, zq86, zq87, zq8c, zq89, zq8a, zq9s, zq6h, zq8x, YC, zq9p, t6n9, T6n9, zq9t, zq8p, zq6q, t6n7, T6n7, zq9v, zq9u, popTo, zq6i, YP])
  refine ⟨fun hlt => ?_, fun hge => ?_⟩
  rotate_left
  ·clear again I
   (refine Y_go 600 ?_; dsimp only [zq00, zq01, zq02, zq03, zq04, zq05, zq06, zq07, zq08, zq09, zq0a, zq0b, zq0c, zq0d, zq0e, zq0f, zq0g, zq0h, zq0i, zq0j, zq0k, zq0l, zq0m, zq0n, zq0o, zq0p, zq0q, zq0r, zq0s, zq0t, zq0u, zq0v, zq0w, zq0x, zq0y, zq0z, zq10, zq11, zq12, zq13, zq14, zq15, zq16, zq17, zq18, zq19, zq1a, zq1b, zq1c, zq1d, zq1e, zq1f, zq1g, zq1h, zq1i, zq1j, zq1k, zq1l, zq1m, zq1n, zq1o, zq1p, zq1q, zq1r, zq1s, zq1t, zq1u, zq1v, zq1w, zq1x, zq1y, zq1z, zq20, zq21, zq22, zq23, zq24, zq25, zq26, zq27, zq28, zq29, zq2a, zq2b, zq2c, zq2d, zq2e, zq2f, zq2g, zq2h, zq2i, zq2j, zq2k, zq2l, zq2m, zq2n, zq2o, zq2p, zq2q, zq2r, zq2s, zq2t, zq2u, zq2v, zq2w, zq2x, zq2y, zq2z, zq30, zq31, zq32, zq33, zq34, zq35, zq36, zq37, zq38, zq39, zq3a, zq3b, zq3c, zq3d, zq3e, zq3f, zq3g, zq3h, zq3i, zq3j, zq3k, zq3l, zq3m, zq3n, zq3o, zq3p, zq3q, zq3r, zq3s, zq3t, zq3u, zq3v, zq3w, zq3x, zq3y, zq3z, zq40, zq41, zq42, zq43, zq44, zq45, zq46, zq47, zq48, zq49, zq4a, zq4b, zq4c, zq4d, zq4e, zq4f, zq4g, zq4h, zq4i, zq4j, zq4k, zq4l, zq4m, zq4n, zq4o, zq4p, zq4q, zq4r, zq4s, zq4t, zq4u, zq4v, zq4w, zq4x, zq4y, zq4z, zq50, zq51, zq52, zq53, zq54, zq55, zq56, zq57, zq58, zq59, zq5a, zq5b, zq5c, zq5d, zq5e, zq5f, zq5g, zq5h, zq5i, zq5j, zq5k, zq5l, zq5m, zq5n, zq5o, zq5p, zq5q, zq5r, zq5s, zq5t, zq5u, zq5v, zq5w, zq5x, zq5y, zq5z, zq60, zq61, zq62, zq63, zq64, zq65, zq66, zq67, zq68, zq69, zq6a, zq6b, zq6c, zq6d, zq6e, zq6f, zq6g, zq6h, zq6i, zq6j, zq6k, zq6l, zq6m, zq6n, zq6o, zq6p, zq6q, zq6r, zq6s, zq6t, zq6u, zq6v, zq6w, zq6x, zq6y, zq6z, zq70, zq71, zq72, zq73, zq74, zq75, zq76, zq77, zq78, zq79, zq7a, zq7b, zq7c, zq7d, zq7e, zq7f, zq7g, zq7h, zq7i, zq7j, zq7k, zq7l, zq7m, zq7n, zq7o, zq7p, zq7q, zq7r, zq7s, zq7t, zq7u, zq7v, zq7w, zq7x, zq7y, zq7z, zq80, zq81, zq82, zq83, zq84, zq85, zq86, zq87, zq88, zq89, zq8a, zq8b, zq8c, zq8d, zq8e, zq8f, zq8g, zq8h, zq8i, zq8j, zq8k, zq8l, zq8m, zq8n, zq8o, zq8p, zq8q, zq8r, zq8s, zq8t, zq8u, zq8v, zq8w, zq8x, zq8y, zq8z, zq90, zq91, zq92, zq93, zq94, zq95, zq96, zq97, zq98, zq99, zq9a, zq9b, zq9c, zq9d, zq9e, zq9f, zq9g, zq9h, zq9i, Y_k, Y_gk, zq9j, zq9k, zq9l, zq9m, zq9n, zq9o, zq9p, zq9q, zq9r, zq9s, zq9t, zq9u, zq9v, zq9w, zq9x, zq9y, zq9z, zqa0, zqa1, zqa2, zqa3, YK, YR, YS, YG, YC, YP, normF, popTo, nth, setn, evL, takeL, dropL, splice, repL, denL, den, blk, eqSV, List.map, List.length, List.cons_append, List.nil_append, List.length_cons, List.length_nil, Int.reduceToNat, Nat.reduceBEq, Nat.reduceAdd, Nat.reduceMul, Nat.reduceSub, beq_self_eq_true, Nat.zero_add, Nat.add_zero, t6n0, T6n0, t6n1, T6n1, t6n2, T6n2, t6n3, T6n3, t6n4, T6n4, t6n5, T6n5, t6n6, T6n6, t6n7, T6n7, t6n8, T6n8, t6n9, T6n9, t6n10, T6n10, t6n11, T6n11, t6n12, T6n12, t6n13, T6n13, t6n14, T6n14, t6n15, T6n15, t6n16, T6n16, t6n17, T6n17, t6n18, T6n18, t6n19, T6n19, t6n20, T6n20, t6n21, T6n21, t6n22, T6n22, t6n23, T6n23, t6n24, T6n24])
   (refine alt_y rfl hQ 600 ?_; dsimp only [YT_k, zq8t, YT_alt, YT_call, zq5e, List.map, zq6q, zq6p, zq5c, zq8o, zq6n, Nat.reduceBEq, zq6l, zq6k, zq5a, zq58, zq8p, zq06, zq4u, zq0w, Int.reduceToNat, Nat.reduceMul, zq16, Nat.reduceAdd, zq1p, zq1c, List.nil_append, List.cons_append, zq1b, zq17, zq18, List.length_cons, List.length_nil])
   have ca : ∀ k v, k < 13 → (spV x)[k]? = some v → CellAt ⟨W1, W1.heap.size, [gc, gs], 194, []⟩ A k v := fun k v hk h => hAE.cell (by
    show (spV x ++ cellsS l)[k]? = some v
    rw [List.getElem?_append_left (by simpa [spV] using hk)]; exact h)
   have sA : A.isSome = true := RowE.isSome hAE (j := 0) (by rw [cellsS_len]; simp)
   have hba : 0 ≤ (0 : Int) ∧ (0 : Int) < ((l.length + 1 : Nat) : Int) ∧ A.isSome = true := ⟨by omega, by omega, sA⟩
   refine ⟨hba, sA, hba, sA, _, ca 1 _ (by decide) rfl, _, ca 5 _ (by decide) rfl, _, ca 6 _ (by decide) rfl, _, ca 7 _ (by decide) rfl, _, ca 8 _ (by decide) rfl, _, ca 9 _ (by decide) rfl, _, ca 10 _ (by decide) rfl, _, ca 11 _ (by decide) rfl, _, ca 12 _ (by decide) rfl, ?_⟩
   have hfind := fun {e : En} (he : e ∈ hlTo c1 c1.n) => sets_find ok1 iv1 (by omega) x.n x.l he
   have ok2 : CaOk (fillC c1 x.n 1 x.l) := (fill_like c1 x.n 1 x.l).ok ok1 (by omega)
   have hfl := fun (E0 : Env) (W : World) => fill19 (E0 := E0) (W := W) gc gs c1 ok1 x.n 1 x.l
   have hfv : fillV c1 x.n 1 = .tuple #[.agg (enV (fillA c1 x.n 1).1).toArray, .bool (fillA c1 x.n 1).2.1, .int .i64 (fillA c1 x.n 1).2.2] := rfl
   generalize fillC c1 x.n 1 x.l = c2 at hfind ok2 hfl ⊢
   generalize fillA c1 x.n 1 = fa at hfind hfv ⊢
   obtain ⟨was, had, f⟩ := fa
   simp only at hfind hfv
   have fin : ∀ g, G (cxOf Try.prog Try.f6 K6 T6 R) ⟨W1, W1.heap.size, [gc, gs], 194, []⟩ [.code (XC.ref 16).loop, .blk 4, .code (.ref 17)] { F := [(6, .bf), (7, .bt), (8, .ptr 0 0), (10, .val (.slice B es.length bc)), (14, .ptr 2 0), (15, .val (.bool had)), (16, .val (.int .i64 f)), (17, .val (.int .i64 0))], H := caF gc gs c2 ++ [.cells g 44 [.val (.int .i64 was.line), .val (.int .i64 was.st), .val (.bool was.rd), .val (.bool was.wr), .val (.int .u64 (was.d 0)), .val (.int .u64 (was.d 1)), .val (.int .u64 (was.d 2)), .val (.int .u64 (was.d 3)), .val (.int .u64 (was.d 4)), .val (.int .u64 (was.d 5)), .val (.int .u64 (was.d 6)), .val (.int .u64 (was.d 7)), .val (.int .u64 (was.o 0)), .val (.int .u64 (was.o 1)), .val (.int .u64 (was.o 2)), .val (.int .u64 (was.o 3)), .val (.int .u64 (was.o 4)), .val (.int .u64 (was.o 5)), .val (.int .u64 (was.o 6)), .val (.int .u64 (was.o 7)), .val (.int .i64 was.used)]] } := by
    intro g
    refine loop_go (α := Nat) (fun i => i ≤ es.length) (fun _ => ⟨W1, W1.heap.size, [gc, gs], 194, []⟩)
     (fun i => { F := [(6, .bf), (7, .bt), (8, .ptr 0 0), (10, .val (.slice B es.length bc)), (14, .ptr 2 0), (15, .val (.bool had)), (16, .val (.int .i64 f)), (17, .val (.int .i64 i))], H := caF gc gs c2 ++ [.cells g 44 [.val (.int .i64 was.line), .val (.int .i64 was.st), .val (.bool was.rd), .val (.bool was.wr), .val (.int .u64 (was.d 0)), .val (.int .u64 (was.d 1)), .val (.int .u64 (was.d 2)), .val (.int .u64 (was.d 3)), .val (.int .u64 (was.d 4)), .val (.int .u64 (was.d 5)), .val (.int .u64 (was.d 6)), .val (.int .u64 (was.d 7)), .val (.int .u64 (was.o 0)), .val (.int .u64 (was.o 1)), .val (.int .u64 (was.o 2)), .val (.int .u64 (was.o 3)), .val (.int .u64 (was.o 4)), .val (.int .u64 (was.o 5)), .val (.int .u64 (was.o 6)), .val (.int .u64 (was.o 7)), .val (.int .i64 was.used)]] }) (fun i => es.length - i) (fun _ => rfl) ?start3 ?round3
    case start3 =>
     intro a W rep
     exact ⟨0, Nat.zero_le _, rep.le (by simp only [caF]; (simp only [setn, List.nil_append, List.cons_append, leF, leH_nil, leH_cons, leF_nil, lk, scp, scpL, scpO, resF, resH, resO, resV, resVL, nth, Nat.reduceBEq, Nat.reduceLT, decide_true, decide_false, List.length, List.length_cons, List.length_nil, Nat.reduceAdd, Bool.and_self, Bool.and_true, and_true, true_and, numF] <;> try simp)) (by simp only [caF]; (simp only [setn, List.nil_append, List.cons_append, leF, leH_nil, leH_cons, leF_nil, lk, scp, scpL, scpO, resF, resH, resO, resV, resVL, nth, Nat.reduceBEq, Nat.reduceLT, decide_true, decide_false, List.length, List.length_cons, List.length_nil, Nat.reduceAdd, Bool.and_self, Bool.and_true, and_true, true_and, numF] <;> try simp))⟩
    case round3 =>
     rintro i hi I again
     simp only [caF]
     (refine Y_go 600 ?_; dsimp only [List.cons_append, List.nil_append, zq9y, t6n16, T6n16, zq9r, zq9q, Y_k, zq4u, zq8o, zq6n, Nat.reduceBEq, zq6l, zq6k, YK, zq8t, zq55, zq0r, zq50, zq04, zq92, zq9b, zq0i, zq9e, zq9i, normF, zq6m, zq86, zq87, zq8c, zq89, zq8a, zq9s, zq6h, zq8x, YC, zq9p, t6n15, T6n15, zq9t, zq58, zq06, zq0w, zq5a, zq16, Nat.add_zero, zq5c, zq1p, zq1c, zq1b, zq18, zq9j, zq9u, popTo, zq6i, YP, t6n17, T6n17, zq9x])
     refine ⟨fun hlt => ?_, fun _ => yes1 _ rfl⟩
     have hlt : i < es.length := by have := of_decide_eq_true hlt; omega
     refine ⟨hbe hlt, sE (by omega), _, hEc hlt (k := 0) rfl rfl, ?_⟩
     have hfc := fun (E0 : Env) (W : World) => find20 (E0 := E0) (W := W) gc gs c2 ok2 es[i].line
     have hfd := hfind (hmem i hlt)
     have hec := fun {k m : Nat} {v : Value} => hEc (i := i) (k := k) (m := m) (v := v) hlt
     have hadd : ArOk .add .i64 (i : Int) 1 ((i + 1 : Nat) : Int) := ArOk.to (by omega) (by omega) (by omega)
     generalize es[i] = e at hfc hfd hec ⊢
     rcases hfd with ⟨q1, q2, q3, q4, q5, q6⟩ | ⟨q1, q6⟩
     ·rw [q6] at hfc
      subst q2
      subst q1
      refine call_ca gc gs c2 c2 (.tuple #[.agg (enV zE).toArray, .bool false]) (.tup [.agg [.val (.int .i64 0), .val (.int .i64 0), .val (.bool false), .val (.bool false), .val (.int .u64 0), .val (.int .u64 0), .val (.int .u64 0), .val (.int .u64 0), .val (.int .u64 0), .val (.int .u64 0), .val (.int .u64 0), .val (.int .u64 0), .val (.int .u64 0), .val (.int .u64 0), .val (.int .u64 0), .val (.int .u64 0), .val (.int .u64 0), .val (.int .u64 0), .val (.int .u64 0), .val (.int .u64 0), .val (.int .i64 0)], .val (.bool false)]) [_] rfl (vs := [.pointer (some ⟨gc, 0, none⟩), .int .i64 was.line]) rfl (fun W _ hh => hfc _ W hh) (fun H => by simp only [Is, IsL]; exact ⟨_, ⟨_, _, enSV_is H zE, ⟨_, _, rfl, rfl, rfl⟩, rfl⟩, rfl⟩) ?_
      dsimp only [zq8t, caF, List.cons_append, List.nil_append]
      (refine Y_go 600 ?_; dsimp only [Y_k, zq4u, zq8o, zq6n, Nat.reduceBEq, zq6k, YK, zq8t, zq5j, zq2f, nth, zq2e, zq6l, zq5e, List.length_cons, List.length_nil, Nat.reduceAdd, List.map, zq6q, zq6p, List.cons_append, List.nil_append, zq5d, zq7t, zq8l, zq73, zq8m, zq7g, zq8k, zq0a, zq1x, zq1t, dropL, takeL, zq1r, splice, setn, zq8s, zq9i, normF, zq6m, zq86, zq89, zq87, zq8c, zq8a, zq9y, t6n13, T6n13, zq9r, zq9q, Y_gk, zq6d, YR, zq5c, zq1o, zq1k, zq19, zq17, zq69, zq58, zq06, zq0w, zq1p, zq1c, zq1d, zq1b, zq5s, zq3o, eqSV, zq92, zq8w, zq96, zq3q, zq4v, zq8p, zq0b, t6n12, T6n12, zq51, zq0k, zq6e, YS, zq6a, zq02, zq6o, zq03, zq9s, zq6f, YC, t6n11, T6n11, zq9x, zq6c, zq3p, zq0c, zq5a, zq14, zq18, zq50, zq04, zq9b, zq0i, zq9d, zq6h, zq8x, zq9p, zqa1, t6n14, T6n14, zq4w, zq0e, zqa2, zq6b, zq6g, zq8v])
      intro g1
      refine ⟨fun _ => ⟨hbe hlt, _, hec (k := 0) (by omega) rfl, _, hec (k := 1) (by omega) rfl, _, hec (k := 2) (by omega) rfl, _, hec (k := 3) (by omega) rfl, _, hec (k := 4) (by omega) rfl, _, hec (k := 5) (by omega) rfl, _, hec (k := 6) (by omega) rfl, _, hec (k := 7) (by omega) rfl, _, hec (k := 8) (by omega) rfl, _, hec (k := 9) (by omega) rfl, _, hec (k := 10) (by omega) rfl, _, hec (k := 11) (by omega) rfl, _, hec (k := 12) (by omega) rfl, _, hec (k := 13) (by omega) rfl, _, hec (k := 14) (by omega) rfl, _, hec (k := 15) (by omega) rfl, _, hec (k := 16) (by omega) rfl, _, hec (k := 17) (by omega) rfl, _, hec (k := 18) (by omega) rfl, _, hec (k := 19) (by omega) rfl, _, hec (k := 20) (by omega) rfl, ?_⟩, fun h => absurd h (by decide)⟩
      generalize hb : (was.line == was.line && (was.st == was.st && (was.rd == was.rd && (was.wr == was.wr && (was.d 0 == was.d 0 && (was.d 1 == was.d 1 && (was.d 2 == was.d 2 && (was.d 3 == was.d 3 && (was.d 4 == was.d 4 && (was.d 5 == was.d 5 && (was.d 6 == was.d 6 && (was.d 7 == was.d 7 && (was.o 0 == was.o 0 && (was.o 1 == was.o 1 && (was.o 2 == was.o 2 && (was.o 3 == was.o 3 && (was.o 4 == was.o 4 && (was.o 5 == was.o 5 && (was.o 6 == was.o 6 && (was.o 7 == was.o 7 && (was.used == was.used && true))))))))))))))))))))) = b
      have hb : b = true := by rw [← hb]; simp
      subst hb
      refine ⟨fun h => absurd h (by decide), fun _ => ⟨fun h => absurd h (by decide), fun _ => ⟨fun _ => ⟨fun h => absurd h (by decide), fun _ => ⟨fun h => absurd h (by decide), fun _ => ⟨fun h => absurd h (by rw [q3]; decide), fun _ => ⟨fun h => absurd h (by rw [q4]; decide), fun _ => ⟨fun h => absurd h (by rw [q5]; decide), fun _ => ⟨_, hadd, lend_rule fun a W rep => again (i + 1) hlt (by omega) a W (rep.le (by simp only [caF]; (simp only [setn, List.nil_append, List.cons_append, leF, leH_nil, leH_cons, leF_nil, lk, scp, scpL, scpO, resF, resH, resO, resV, resVL, nth, Nat.reduceBEq, Nat.reduceLT, decide_true, decide_false, List.length, List.length_cons, List.length_nil, Nat.reduceAdd, Bool.and_self, Bool.and_true, and_true, true_and, numF] <;> try simp)) (by simp only [caF]; (simp only [setn, List.nil_append, List.cons_append, leF, leH_nil, leH_cons, leF_nil, lk, scp, scpL, scpO, resF, resH, resO, resV, resVL, nth, Nat.reduceBEq, Nat.reduceLT, decide_true, decide_false, List.length, List.length_cons, List.length_nil, Nat.reduceAdd, Bool.and_self, Bool.and_true, and_true, true_and, numF] <;> try simp)))⟩⟩⟩⟩⟩⟩, fun h => absurd h (by decide)⟩⟩⟩
     ·rw [q6] at hfc
      refine call_ca gc gs c2 c2 (.tuple #[.agg (enV e).toArray, .bool true]) (.tup [.agg [.val (.int .i64 e.line), .val (.int .i64 e.st), .val (.bool e.rd), .val (.bool e.wr), .val (.int .u64 (e.d 0)), .val (.int .u64 (e.d 1)), .val (.int .u64 (e.d 2)), .val (.int .u64 (e.d 3)), .val (.int .u64 (e.d 4)), .val (.int .u64 (e.d 5)), .val (.int .u64 (e.d 6)), .val (.int .u64 (e.d 7)), .val (.int .u64 (e.o 0)), .val (.int .u64 (e.o 1)), .val (.int .u64 (e.o 2)), .val (.int .u64 (e.o 3)), .val (.int .u64 (e.o 4)), .val (.int .u64 (e.o 5)), .val (.int .u64 (e.o 6)), .val (.int .u64 (e.o 7)), .val (.int .i64 e.used)], .val (.bool true)]) [_] rfl (vs := [.pointer (some ⟨gc, 0, none⟩), .int .i64 e.line]) rfl (fun W _ hh => hfc _ W hh) (fun H => by simp only [Is, IsL]; exact ⟨_, ⟨_, _, enSV_is H e, ⟨_, _, rfl, rfl, rfl⟩, rfl⟩, rfl⟩) ?_
      dsimp only [zq8t, caF, List.cons_append, List.nil_append]
      (refine Y_go 600 ?_; dsimp only [Y_k, zq4u, zq8o, zq6n, Nat.reduceBEq, zq6k, YK, zq8t, zq5j, zq2f, nth, zq2e, zq6l, zq5e, List.length_cons, List.length_nil, Nat.reduceAdd, List.map, zq6q, zq6p, List.cons_append, List.nil_append, zq5d, zq7t, zq8l, zq73, zq8m, zq7g, zq8k, zq0a, zq1x, zq1t, dropL, takeL, zq1r, splice, setn, zq8s, zq9i, normF, zq6m, zq86, zq89, zq87, zq8c, zq8a, zq9y, t6n13, T6n13, zq9r, zq9q, Y_gk, zq6d, YR, zq5c, zq1o, zq1k, zq19, zq17, zq69, zq58, zq06, zq0w, zq1p, zq1c, zq1d, zq1b, zq5s, zq3o, eqSV, zq92, zq8w, zq96, zq3q, zq4v, zq8p, zq0b, t6n12, T6n12, zq51, zq0k, zq6e, YS, zq6a, zq02, zq6o, zq03, zq9s, zq6f, YC, t6n11, T6n11, zq9x, zq6c, zq3p, zq0c, zq5a, zq14, zq18, zq50, zq04, zq9b, zq0i, zq9d, zq6h, zq8x, zq9p, zqa1, t6n14, T6n14, zq4w, zq0e, zqa2, zq6b, zq6g, zq8v])
      intro g1
      refine ⟨fun hd => ⟨hbe hlt, _, hec (k := 0) (by omega) rfl, _, hec (k := 1) (by omega) rfl, _, hec (k := 2) (by omega) rfl, _, hec (k := 3) (by omega) rfl, _, hec (k := 4) (by omega) rfl, _, hec (k := 5) (by omega) rfl, _, hec (k := 6) (by omega) rfl, _, hec (k := 7) (by omega) rfl, _, hec (k := 8) (by omega) rfl, _, hec (k := 9) (by omega) rfl, _, hec (k := 10) (by omega) rfl, _, hec (k := 11) (by omega) rfl, _, hec (k := 12) (by omega) rfl, _, hec (k := 13) (by omega) rfl, _, hec (k := 14) (by omega) rfl, _, hec (k := 15) (by omega) rfl, _, hec (k := 16) (by omega) rfl, _, hec (k := 17) (by omega) rfl, _, hec (k := 18) (by omega) rfl, _, hec (k := 19) (by omega) rfl, _, hec (k := 20) (by omega) rfl, ?_⟩, fun hd => ?_⟩
      ·generalize hb : (was.line == e.line && (was.st == e.st && (was.rd == e.rd && (was.wr == e.wr && (was.d 0 == e.d 0 && (was.d 1 == e.d 1 && (was.d 2 == e.d 2 && (was.d 3 == e.d 3 && (was.d 4 == e.d 4 && (was.d 5 == e.d 5 && (was.d 6 == e.d 6 && (was.d 7 == e.d 7 && (was.o 0 == e.o 0 && (was.o 1 == e.o 1 && (was.o 2 == e.o 2 && (was.o 3 == e.o 3 && (was.o 4 == e.o 4 && (was.o 5 == e.o 5 && (was.o 6 == e.o 6 && (was.o 7 == e.o 7 && (was.used == e.used && true))))))))))))))))))))) = b
       have hb : b = false := by
        rw [← hb]
        rcases q1 with q1 | q1
        ·rw [q1] at hd; cases hd
        ·rw [beq_false_of_ne q1]; rfl
       subst hb
       refine ⟨fun h => absurd h (by decide), fun _ => ⟨fun _ => ⟨hbe hlt, _, hec (k := 0) (by omega) rfl, _, hec (k := 1) (by omega) rfl, _, hec (k := 2) (by omega) rfl, _, hec (k := 3) (by omega) rfl, _, hec (k := 4) (by omega) rfl, _, hec (k := 5) (by omega) rfl, _, hec (k := 6) (by omega) rfl, _, hec (k := 7) (by omega) rfl, _, hec (k := 8) (by omega) rfl, _, hec (k := 9) (by omega) rfl, _, hec (k := 10) (by omega) rfl, _, hec (k := 11) (by omega) rfl, _, hec (k := 12) (by omega) rfl, _, hec (k := 13) (by omega) rfl, _, hec (k := 14) (by omega) rfl, _, hec (k := 15) (by omega) rfl, _, hec (k := 16) (by omega) rfl, _, hec (k := 17) (by omega) rfl, _, hec (k := 18) (by omega) rfl, _, hec (k := 19) (by omega) rfl, _, hec (k := 20) (by omega) rfl, ?_⟩, fun h => absurd h (by decide)⟩⟩
       exact ⟨fun h => absurd h (by simp), fun _ => ⟨fun h => absurd h (by decide), fun _ => ⟨_, hadd, lend_rule fun a W rep => again (i + 1) hlt (by omega) a W (rep.le (by simp only [caF]; (simp only [setn, List.nil_append, List.cons_append, leF, leH_nil, leH_cons, leF_nil, lk, scp, scpL, scpO, resF, resH, resO, resV, resVL, nth, Nat.reduceBEq, Nat.reduceLT, decide_true, decide_false, List.length, List.length_cons, List.length_nil, Nat.reduceAdd, Bool.and_self, Bool.and_true, and_true, true_and, numF] <;> try simp)) (by simp only [caF]; (simp only [setn, List.nil_append, List.cons_append, leF, leH_nil, leH_cons, leF_nil, lk, scp, scpL, scpO, resF, resH, resO, resV, resVL, nth, Nat.reduceBEq, Nat.reduceLT, decide_true, decide_false, List.length, List.length_cons, List.length_nil, Nat.reduceAdd, Bool.and_self, Bool.and_true, and_true, true_and, numF] <;> try simp)))⟩⟩⟩
      ·refine ⟨fun h => absurd h (by decide), fun _ => ⟨fun _ => ⟨hbe hlt, _, hec (k := 0) (by omega) rfl, _, hec (k := 1) (by omega) rfl, _, hec (k := 2) (by omega) rfl, _, hec (k := 3) (by omega) rfl, _, hec (k := 4) (by omega) rfl, _, hec (k := 5) (by omega) rfl, _, hec (k := 6) (by omega) rfl, _, hec (k := 7) (by omega) rfl, _, hec (k := 8) (by omega) rfl, _, hec (k := 9) (by omega) rfl, _, hec (k := 10) (by omega) rfl, _, hec (k := 11) (by omega) rfl, _, hec (k := 12) (by omega) rfl, _, hec (k := 13) (by omega) rfl, _, hec (k := 14) (by omega) rfl, _, hec (k := 15) (by omega) rfl, _, hec (k := 16) (by omega) rfl, _, hec (k := 17) (by omega) rfl, _, hec (k := 18) (by omega) rfl, _, hec (k := 19) (by omega) rfl, _, hec (k := 20) (by omega) rfl, ?_⟩, fun h => absurd h (by decide)⟩⟩
       exact ⟨fun h => absurd h (by simp), fun _ => ⟨_, hadd, lend_rule fun a W rep => again (i + 1) hlt (by omega) a W (rep.le (by simp only [caF]; (simp only [setn, List.nil_append, List.cons_append, leF, leH_nil, leH_cons, leF_nil, lk, scp, scpL, scpO, resF, resH, resO, resV, resVL, nth, Nat.reduceBEq, Nat.reduceLT, decide_true, decide_false, List.length, List.length_cons, List.length_nil, Nat.reduceAdd, Bool.and_self, Bool.and_true, and_true, true_and, numF] <;> try simp)) (by simp only [caF]; (simp only [setn, List.nil_append, List.cons_append, leF, leH_nil, leH_cons, leF_nil, lk, scp, scpL, scpO, resF, resH, resO, resV, resVL, nth, Nat.reduceBEq, Nat.reduceLT, decide_true, decide_false, List.length, List.length_cons, List.length_nil, Nat.reduceAdd, Bool.and_self, Bool.and_true, and_true, true_and, numF] <;> try simp)))⟩⟩
   refine ⟨?_, ?_⟩
   ·refine GT_ca gc gs c1 c2 (fillV c1 x.n 1) (.tup [.agg [.val (.int .i64 was.line), .val (.int .i64 was.st), .val (.bool was.rd), .val (.bool was.wr), .val (.int .u64 (was.d 0)), .val (.int .u64 (was.d 1)), .val (.int .u64 (was.d 2)), .val (.int .u64 (was.d 3)), .val (.int .u64 (was.d 4)), .val (.int .u64 (was.d 5)), .val (.int .u64 (was.d 6)), .val (.int .u64 (was.d 7)), .val (.int .u64 (was.o 0)), .val (.int .u64 (was.o 1)), .val (.int .u64 (was.o 2)), .val (.int .u64 (was.o 3)), .val (.int .u64 (was.o 4)), .val (.int .u64 (was.o 5)), .val (.int .u64 (was.o 6)), .val (.int .u64 (was.o 7)), .val (.int .i64 was.used)], .val (.bool had), .val (.int .i64 f)]) [] rfl (vs := [.pointer (some ⟨gc, 0, none⟩), .int .i64 x.n, .int .i64 1, .agg (dV x.l).toArray]) rfl (fun W _ hh => hfl _ W hh) (fun H => by rw [hfv]; simp only [Is, IsL]; exact ⟨_, ⟨_, _, enSV_is H was, ⟨_, _, rfl, ⟨_, _, rfl, rfl, rfl⟩, rfl⟩, rfl⟩, rfl⟩) ?_
    dsimp only [zq8t, caF, List.cons_append, List.nil_append]
    (refine gt_y rfl hQ 600 ?_; dsimp only [YT_k, zq8t, zq8s, YT_done, normF, zq6n, Nat.reduceBEq, zq6l, zq6k, zq6m, zq86, zq8i, zq88, zq8d, zq87, zq8c, zq8a, zq89, zq9y, t6n18, T6n18, zq9r, zq9q, Y_k, zq4u, zq8p, zq6q, YK, zq9i, zq9t, zq9v, zq8o, zq5d, zq5e, List.map, zq6p, zq5j, zq2f, nth, zq2e, List.length_cons, List.length_nil, Nat.reduceAdd, List.cons_append, List.nil_append, zq7t, zq8l, zq73, zq8m, zq7g, zq8k, zq0a, zq1x, zq1t, dropL, takeL, zq1r, splice, setn])
    intro g
    exact G.le rfl (fun a W rep => rep.le (by simp only [caF]; (simp only [setn, List.nil_append, List.cons_append, leF, leH_nil, leH_cons, leF_nil, lk, scp, scpL, scpO, resF, resH, resO, resV, resVL, nth, Nat.reduceBEq, Nat.reduceLT, decide_true, decide_false, List.length, List.length_cons, List.length_nil, Nat.reduceAdd, Bool.and_self, Bool.and_true, and_true, true_and, numF] <;> try simp)) (by simp only [caF]; (simp only [setn, List.nil_append, List.cons_append, leF, leH_nil, leH_cons, leF_nil, lk, scp, scpL, scpO, resF, resH, resO, resV, resVL, nth, Nat.reduceBEq, Nat.reduceLT, decide_true, decide_false, List.length, List.length_cons, List.length_nil, Nat.reduceAdd, Bool.and_self, Bool.and_true, and_true, true_and, numF] <;> try simp))) (fin g)
   ·intro g
    refine GT_ca gc gs c1 c2 (fillV c1 x.n 1) (.tup [.agg [.val (.int .i64 was.line), .val (.int .i64 was.st), .val (.bool was.rd), .val (.bool was.wr), .val (.int .u64 (was.d 0)), .val (.int .u64 (was.d 1)), .val (.int .u64 (was.d 2)), .val (.int .u64 (was.d 3)), .val (.int .u64 (was.d 4)), .val (.int .u64 (was.d 5)), .val (.int .u64 (was.d 6)), .val (.int .u64 (was.d 7)), .val (.int .u64 (was.o 0)), .val (.int .u64 (was.o 1)), .val (.int .u64 (was.o 2)), .val (.int .u64 (was.o 3)), .val (.int .u64 (was.o 4)), .val (.int .u64 (was.o 5)), .val (.int .u64 (was.o 6)), .val (.int .u64 (was.o 7)), .val (.int .i64 was.used)], .val (.bool had), .val (.int .i64 f)]) [_] rfl (vs := [.pointer (some ⟨gc, 0, none⟩), .int .i64 x.n, .int .i64 1, .agg (dV x.l).toArray]) rfl (fun W _ hh => hfl _ W hh) (fun H => by rw [hfv]; simp only [Is, IsL]; exact ⟨_, ⟨_, _, enSV_is H was, ⟨_, _, rfl, ⟨_, _, rfl, rfl, rfl⟩, rfl⟩, rfl⟩, rfl⟩) ?_
    dsimp only [zq8t, caF, List.cons_append, List.nil_append]
    (refine gt_y rfl hQ 600 ?_; dsimp only [YT_k, zq8t, zq8s, YT_done, normF, zq6n, Nat.reduceBEq, zq6l, zq6k, zq6m, zq86, zq8i, zq88, zq8d, zq87, zq8c, zq8a, zq89, zq9y, t6n18, T6n18, zq9r, zq9q, Y_k, zq4u, zq8p, zq6q, YK, zq9i, zq9t, zq9v, zq8o, zq5d, zq5j, zq2f, nth, zq2e, zq7t, List.length_cons, List.length_nil, Nat.reduceAdd, zq8l, zq73, zq8m, zq7g, zq8k, zq0a, zq1x, zq1t, dropL, takeL, zq1r, splice, setn])
    exact G.le rfl (fun a W rep => rep.le (by simp only [caF]; (simp only [setn, List.nil_append, List.cons_append, leF, leH_nil, leH_cons, leF_nil, lk, scp, scpL, scpO, resF, resH, resO, resV, resVL, nth, Nat.reduceBEq, Nat.reduceLT, decide_true, decide_false, List.length, List.length_cons, List.length_nil, Nat.reduceAdd, Bool.and_self, Bool.and_true, and_true, true_and, numF] <;> try simp)) (by simp only [caF]; (simp only [setn, List.nil_append, List.cons_append, leF, leH_nil, leH_cons, leF_nil, lk, scp, scpL, scpO, resF, resH, resO, resV, resVL, nth, Nat.reduceBEq, Nat.reduceLT, decide_true, decide_false, List.length, List.length_cons, List.length_nil, Nat.reduceAdd, Bool.and_self, Bool.and_true, and_true, true_and, numF] <;> try simp))) (fin g)
  have hlt : i < es.length := by have := of_decide_eq_true hlt; omega
  refine loop_go (α := Nat) (fun k => k ≤ es.length) (fun _ => ⟨W1, W1.heap.size, [gc, gs], 194, []⟩)
   (fun k => { F := [(0, .val (.int .i64 c.sets)), (1, .val (.int .i64 c.ways)), (2, .val (.slice A (l.length + 1) ac)), (6, .bf), (7, .bt), (8, .ptr 0 0), (10, .val (.slice B es.length bc)), (11, .val (.int .i64 i)), (12, .val (.int .i64 (manyE c.sets es[i].line (es.take k)))), (13, .val (.int .i64 k))], H := caF gc gs c1 }) (fun k => es.length - k) (fun _ => rfl) ?start2 ?round2
  case start2 =>
   intro a W rep
   exact ⟨0, Nat.zero_le _, rep.le (by simp only [caF, List.take_zero, show manyE c.sets es[i].line [] = 0 from rfl]; (simp only [setn, List.nil_append, List.cons_append, leF, leH_nil, leH_cons, leF_nil, lk, scp, scpL, scpO, resF, resH, resO, resV, resVL, nth, Nat.reduceBEq, Nat.reduceLT, decide_true, decide_false, List.length, List.length_cons, List.length_nil, Nat.reduceAdd, Bool.and_self, Bool.and_true, and_true, true_and, numF] <;> try simp)) (by simp only [caF]; (simp only [setn, List.nil_append, List.cons_append, leF, leH_nil, leH_cons, leF_nil, lk, scp, scpL, scpO, resF, resH, resO, resV, resVL, nth, Nat.reduceBEq, Nat.reduceLT, decide_true, decide_false, List.length, List.length_cons, List.length_nil, Nat.reduceAdd, Bool.and_self, Bool.and_true, and_true, true_and, numF] <;> try simp))⟩
  case round2 =>
   rintro k hk J againJ
   simp only [caF]
   (refine Y_go 600 ?_; dsimp only [zq9y, t6n4, T6n4, zq9r, zq9q, Y_k, zq4u, zq8o, zq6n, Nat.reduceBEq, zq6l, zq6k, YK, zq8t, zq55, zq0r, zq50, zq04, zq92, zq9b, zq0i, zq9e, zq9i, normF, zq6m, zq86, zq87, zq8c, zq89, zq8a, zq9s, zq6h, zq8x, YC, zq9p, t6n3, T6n3, zq9t, zq58, zq06, zq0w, zq5a, zq16, Nat.add_zero, zq5c, zq1p, zq1c, List.nil_append, zq1b, zq18, zq4x, zq0f, zq9c, t6n1, T6n1, zq4w, zq8p, zq6q, zq0e, zqa1, t6n2, T6n2, zqa2, zq9u, popTo, zq6i, YP, t6n6, T6n6, zq9g, Y_gk, zq6e, YS, zq6a, zq02, zq4v, zq6o, zq0b, zq6f, t6n5, T6n5, zq6p, zq9x, YR, zq6c, zq6d, zq69, zq9f, zq0c, zq9d, t6n8, T6n8, zq6b, zq6g])
   refine ⟨fun hlk => ?_, fun hge => ?_⟩
   rotate_left
   ·have hke : k = es.length := by have := of_decide_eq_false hge; omega
    subst hke
    rw [List.take_of_length_le (Nat.le_refl _)]
    clear againJ J
    have hm := hmany i hlt
    generalize manyE c.sets es[i].line es = m at hm ⊢
    have hadd : ArOk .add .i64 (i : Int) 1 ((i + 1 : Nat) : Int) := ArOk.to (by omega) (by omega) (by omega)
    have hst12 := (hnn i hlt).2
    refine ⟨fun h => absurd (of_decide_eq_true h) (by omega), fun _ => ⟨fun h0 => ?_, fun h0 => ?_⟩⟩
    ·have h0 : 0 < i := by have := of_decide_eq_true h0; omega
     have hi1 : i - 1 < es.length := by omega
     have hll : es[i - 1].line < es[i].line := List.pairwise_iff_getElem.1 hlt2 (i - 1) i hi1 hlt (by omega)
     refine ⟨hbe hlt, sE (by omega), _, hEc hlt (k := 0) rfl rfl, ((i - 1 : Nat) : Int), ArOk.toSub (by omega) (by omega) (by omega), hbe hi1, sE (by omega), _, hEc hi1 (k := 0) rfl rfl, fun h => absurd (of_decide_eq_true h) (by omega), fun _ => ⟨hbe hlt, sE (by omega), _, hEc hlt (k := 1) rfl rfl, fun h1 => ⟨hbe hlt, sE (by omega), _, hEc hlt (k := 1) rfl rfl, fun h2 => ?_, fun _ => ⟨_, hadd, lend_rule fun a W rep => again (i + 1) hlt (by omega) a W (rep.le (by simp only [caF]; (simp only [setn, List.nil_append, List.cons_append, leF, leH_nil, leH_cons, leF_nil, lk, scp, scpL, scpO, resF, resH, resO, resV, resVL, nth, Nat.reduceBEq, Nat.reduceLT, decide_true, decide_false, List.length, List.length_cons, List.length_nil, Nat.reduceAdd, Bool.and_self, Bool.and_true, and_true, true_and, numF] <;> try simp)) (by simp only [caF]; (simp only [setn, List.nil_append, List.cons_append, leF, leH_nil, leH_cons, leF_nil, lk, scp, scpL, scpO, resF, resH, resO, resV, resVL, nth, Nat.reduceBEq, Nat.reduceLT, decide_true, decide_false, List.length, List.length_cons, List.length_nil, Nat.reduceAdd, Bool.and_self, Bool.and_true, and_true, true_and, numF] <;> try simp)))⟩⟩, fun _ => ⟨_, hadd, lend_rule fun a W rep => again (i + 1) hlt (by omega) a W (rep.le (by simp only [caF]; (simp only [setn, List.nil_append, List.cons_append, leF, leH_nil, leH_cons, leF_nil, lk, scp, scpL, scpO, resF, resH, resO, resV, resVL, nth, Nat.reduceBEq, Nat.reduceLT, decide_true, decide_false, List.length, List.length_cons, List.length_nil, Nat.reduceAdd, Bool.and_self, Bool.and_true, and_true, true_and, numF] <;> try simp)) (by simp only [caF]; (simp only [setn, List.nil_append, List.cons_append, leF, leH_nil, leH_cons, leF_nil, lk, scp, scpL, scpO, resF, resH, resO, resV, resVL, nth, Nat.reduceBEq, Nat.reduceLT, decide_true, decide_false, List.length, List.length_cons, List.length_nil, Nat.reduceAdd, Bool.and_self, Bool.and_true, and_true, true_and, numF] <;> try simp)))⟩⟩⟩
     simp only [bne_iff_ne, ne_eq] at h1 h2
     omega
    ·refine ⟨hbe hlt, sE (by omega), _, hEc hlt (k := 1) rfl rfl, fun h1 => ⟨hbe hlt, sE (by omega), _, hEc hlt (k := 1) rfl rfl, fun h2 => ?_, fun _ => ⟨_, hadd, lend_rule fun a W rep => again (i + 1) hlt (by omega) a W (rep.le (by simp only [caF]; (simp only [setn, List.nil_append, List.cons_append, leF, leH_nil, leH_cons, leF_nil, lk, scp, scpL, scpO, resF, resH, resO, resV, resVL, nth, Nat.reduceBEq, Nat.reduceLT, decide_true, decide_false, List.length, List.length_cons, List.length_nil, Nat.reduceAdd, Bool.and_self, Bool.and_true, and_true, true_and, numF] <;> try simp)) (by simp only [caF]; (simp only [setn, List.nil_append, List.cons_append, leF, leH_nil, leH_cons, leF_nil, lk, scp, scpL, scpO, resF, resH, resO, resV, resVL, nth, Nat.reduceBEq, Nat.reduceLT, decide_true, decide_false, List.length, List.length_cons, List.length_nil, Nat.reduceAdd, Bool.and_self, Bool.and_true, and_true, true_and, numF] <;> try simp)))⟩⟩, fun _ => ⟨_, hadd, lend_rule fun a W rep => again (i + 1) hlt (by omega) a W (rep.le (by simp only [caF]; (simp only [setn, List.nil_append, List.cons_append, leF, leH_nil, leH_cons, leF_nil, lk, scp, scpL, scpO, resF, resH, resO, resV, resVL, nth, Nat.reduceBEq, Nat.reduceLT, decide_true, decide_false, List.length, List.length_cons, List.length_nil, Nat.reduceAdd, Bool.and_self, Bool.and_true, and_true, true_and, numF] <;> try simp)) (by simp only [caF]; (simp only [setn, List.nil_append, List.cons_append, leF, leH_nil, leH_cons, leF_nil, lk, scp, scpL, scpO, resF, resH, resO, resV, resVL, nth, Nat.reduceBEq, Nat.reduceLT, decide_true, decide_false, List.length, List.length_cons, List.length_nil, Nat.reduceAdd, Bool.and_self, Bool.and_true, and_true, true_and, numF] <;> try simp)))⟩⟩
     simp only [bne_iff_ne, ne_eq] at h1 h2
     omega
   have hlk : k < es.length := by have := of_decide_eq_true hlk; omega
   have htk : es.take (k + 1) = es.take k ++ [es[k]] := by rw [List.take_add_one, List.getElem?_eq_getElem hlk]; rfl
   have hm1 : manyE c.sets es[i].line (es.take k) ≤ k := Nat.le_trans List.countP_le_length (by rw [List.length_take]; omega)
   have hsn := many_snoc c.sets es[i].line (es.take k) es[k]
   rw [← htk] at hsn
   generalize manyE c.sets es[i].line (es.take k) = m at hm1 hsn ⊢
   have hadd : ArOk .add .i64 (k : Int) 1 ((k + 1 : Nat) : Int) := ArOk.to (by omega) (by omega) (by omega)
   have hgo : ∀ m', manyE c.sets es[i].line (es.take (k + 1)) = m' → ∀ (a : Act) (W : World), Rep ⟨W1, W1.heap.size, [gc, gs], 194, []⟩ { F := [(0, .val (.int .i64 c.sets)), (1, .val (.int .i64 c.ways)), (2, .val (.slice A (l.length + 1) ac)), (6, .bf), (7, .bt), (8, .ptr 0 0), (10, .val (.slice B es.length bc)), (11, .val (.int .i64 i)), (12, .val (.int .i64 (m' : Nat))), (13, .val (.int .i64 ((k + 1 : Nat) : Int)))], H := caF gc gs c1 } a W → J a W := fun m' h a W rep => againJ (k + 1) hlk (by omega) a W (by rw [h]; exact rep)
   refine ⟨hbe hlk, sE (by omega), _, hEc hlk (k := 0) rfl rfl, _, DivOk.rem_nn (hnn k hlk).1 hs0, hbe hlt, sE (by omega), _, hEc hlt (k := 0) rfl rfl, _, DivOk.rem_nn (hnn i hlt).1 hs0, fun he => ?_, fun he => ?_⟩
   ·rw [if_pos he] at hsn
    exact ⟨((m + 1 : Nat) : Int), ArOk.to (by omega) (by omega) (by omega), _, hadd, lend_rule fun a W rep => hgo (m + 1) hsn a W (rep.le (by simp only [caF]; (simp only [setn, List.nil_append, List.cons_append, leF, leH_nil, leH_cons, leF_nil, lk, scp, scpL, scpO, resF, resH, resO, resV, resVL, nth, Nat.reduceBEq, Nat.reduceLT, decide_true, decide_false, List.length, List.length_cons, List.length_nil, Nat.reduceAdd, Bool.and_self, Bool.and_true, and_true, true_and, numF] <;> try simp)) (by simp only [caF]; (simp only [setn, List.nil_append, List.cons_append, leF, leH_nil, leH_cons, leF_nil, lk, scp, scpL, scpO, resF, resH, resO, resV, resVL, nth, Nat.reduceBEq, Nat.reduceLT, decide_true, decide_false, List.length, List.length_cons, List.length_nil, Nat.reduceAdd, Bool.and_self, Bool.and_true, and_true, true_and, numF] <;> try simp)))⟩
   ·rw [if_neg (by rw [he]; simp)] at hsn
    exact ⟨_, hadd, lend_rule fun a W rep => hgo m hsn a W (rep.le (by simp only [caF]; (simp only [setn, List.nil_append, List.cons_append, leF, leH_nil, leH_cons, leF_nil, lk, scp, scpL, scpO, resF, resH, resO, resV, resVL, nth, Nat.reduceBEq, Nat.reduceLT, decide_true, decide_false, List.length, List.length_cons, List.length_nil, Nat.reduceAdd, Bool.and_self, Bool.and_true, and_true, true_and, numF] <;> try simp)) (by simp only [caF]; (simp only [setn, List.nil_append, List.cons_append, leF, leH_nil, leH_cons, leF_nil, lk, scp, scpL, scpO, resF, resH, resO, resV, resVL, nth, Nat.reduceBEq, Nat.reduceLT, decide_true, decide_false, List.length, List.length_cons, List.length_nil, Nat.reduceAdd, Bool.and_self, Bool.and_true, and_true, true_and, numF] <;> try simp)))⟩
end Go.Proofs.Ytimmobbginjkfaa
