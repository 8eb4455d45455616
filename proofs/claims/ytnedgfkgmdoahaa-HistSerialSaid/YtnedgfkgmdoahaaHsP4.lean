/- shuntlaw12.HistSerial: the walk. -/
import Derived.Test.YtnedgfkgmdoahaaHsP2
import Derived.Test.YtnedgfkgmdoahaaHsP3
import Derived.Test.YtnedgfkgmdoahaaHsCodeS
set_option linter.unusedSimpArgs false
set_option linter.unusedVariables false
set_option linter.unnecessarySimpa false
namespace Go.Proofs.Ytnedgfkgmdoahaa
open Go Go.Sx Go.Hs
set_option maxRecDepth 100000
theorem frst_none {p : Nat → Bool} : ∀ {n : Nat}, (∀ m, m < n → p m = false) → frst p n = none
 | 0, _ => rfl
 | n + 1, h => by simp only [frst]; rw [frst_none fun m hm => h m (by omega)]; simp [h n (by omega)]
theorem frst_not {p : Nat → Bool} {m : Nat} (hp : p m = true) : ∀ {n : Nat}, m < n → frst p n ≠ none
 | n + 1, hm => by
  intro hn
  simp only [frst] at hn
  split at hn
  ·cases hn
  ·rename_i e
   split at hn
   ·cases hn
   ·rename_i hq
    by_cases h : m = n
    ·subst h; exact hq hp
    ·exact frst_not hp (by omega) e
theorem wrap_ne (v : Int) : IntKind.u64.wrap (v + 1) ≠ v := by
 have : IntKind.u64.wrap (v + 1) = (v + 1) % 18446744073709551616 := rfl
 rw [this]; omega
theorem cells_turn {h : List Ev} {n : Nat} (hn : n < h.length) (v : Int) : setn (cellsE h) ((n : Int).toNat * 9 + 7) (Value.int .u64 v) = cellsE (h.set n { evA h n with value := v }) := by
 rw [Int.toNat_natCast, setn_set, evA_lt hn]
 induction h generalizing n with
 | nil => simp at hn
 | cons e h ih =>
  cases n with
  | zero => rfl
  | succ n =>
   rw [List.set_cons_succ]
   show (e.cells ++ cellsE h).set _ _ = e.cells ++ cellsE _
   have h9 : e.cells.length = 9 := rfl
   rw [List.set_append_right _ _ (by omega), h9, show (n + 1) * 9 + 7 - 9 = n * 9 + 7 by omega, ih (by simpa using hn)]
   rfl
theorem law11 (L A' : Option Addr) (lc c' : Nat) (z : List (Blk × BHd)) (first : List Int) (t : Int) (w : World) (hL : RowAt w L (blkC z)) (hops : ∀ p ∈ z, RowAt w p.2.A (bopC p.1.ops)) (hF : RowAt w A' (first.map uV)) (ht : -9223372036854775808 ≤ t ∧ t ≤ 9223372036854775807) :
  CallsV Try.prog 11 [.slice L z.length lc, .slice A' first.length c', .int .i64 t] w fun v w' => v = .bool true ∧ Fresh w w' := by
 refine calls_go (keep := K11) (nt := 166) (svs := [.val (.slice L z.length lc), .val (.slice A' first.length c'), .val (.int .i64 t)]) Try.func11 x11 n11 (by simp) (by simp [IsL, Is]) fun R hR => ?_
 (refine Y_go 600 ?_; dsimp only [X11, numF, Nat.reduceAdd, zq9r, zq9q, Y_k, zq4u, zq8p, zq6p, YK, zq8t, zq9i, normF, zq6n, Nat.reduceBEq, zq6l, zq6k, zq6m, zq86, zq8a, zq87, zq9y, t11n25, T11n25, zq9j])
 refine call_val (R := fun v => v = .bool true) (vs := []) rfl (fun W hW => alive45 W) fun v hv => ⟨.bt, by rw [hv]; simp [Is], ?_⟩
 (refine Y_go 600 ?_; dsimp only [zq8t, Y_k, zq4u, zq8o, zq6n, Nat.reduceBEq, zq6k, YK, zq9i, normF, zq6l, zq6m, zq86, zq89, zq8a, zq87, zq9y, t11n24, T11n24, zq9r, zq9q, zq55, zq0r, zq50, zq8p, zq6q, zq04, zq92, zq9b, zq0i, zq9g, Y_gk, zq6e, YS, zq6a, zq4v, zq6o, zq0b, zq9s, zq6f, YC, t11n0, T11n0, zq9x, YR, zq6c, zq0c, zq53, zq0m, zq6g, zq9p, t11n23, T11n23, zq5h, List.map, repL, zq24, zq26, List.length_nil, List.nil_append, zq5l, zq2x, nth, zq2u, Nat.reduceMul, denL, zq2t, zq2r, zq2o, zq2i, List.length_cons, Nat.reduceAdd, setn, List.cons_append, zq8f, t11n22, T11n22, zq9j])
 have done : ∀ s, denAll s.H s.F [6] = some [.bool true] → RetG (cxOf Try.prog Try.f11 K11 T11 R) ⟨w, w.heap.size, [], 166, []⟩ s := fun s hs =>
  ret_rule (vs := [.bool true]) r11 rfl hs fun W hW => hR _ _ ⟨rfl, hW.fresh'⟩
 refine ⟨fun _ => done _ rfl, fun h1 => ⟨fun _ => done _ rfl, fun h2 => ?_⟩⟩
 have h1 : z.length ≤ 12 := by have := of_decide_eq_false h1; omega
 have h2 : first.length ≤ 60 := by have := of_decide_eq_false h2; omega
 refine fun g0 => ⟨first.map uV, by rw [Nat.mul_one, ← List.length_map (f := uV)]; exact hF.rd (uV_one first), ⟨by simp only [maxLen]; omega, by omega⟩, fun A1 c1 => ?_⟩
 rw [Nat.zero_add]
 refine G.le (E' := ⟨w, w.heap.size, [], 166, []⟩) rfl (s' := { F := [(37, .own 0 0), (36, .val (.slice L z.length lc)), (0, .val (.slice L z.length lc)), (1, .val (.slice A' first.length c')), (2, .val (.int .i64 t)), (6, .bf), (7, .bt), (8, .own 0 0)], H := [.own 63 0 1 A1 first.length c1 (first.map uV)] }) (fun a W rep => (rep.pick [1] (by decide)).le (by (simp only [renF, renV, renVL, renO, pickH, pickE, posOf, setn, List.nil_append, List.cons_append, leF, leH_nil, leH_cons, leF_nil, lk, scp, scpL, scpO, resF, resH, resO, resV, resVL, nth, Nat.reduceBEq, Nat.reduceLT, decide_true, decide_false, List.length, List.length_cons, List.length_nil, Nat.reduceAdd, Bool.and_self, Bool.and_true, and_true, true_and, numF] <;> try simp)) (by (simp only [renF, renV, renVL, renO, pickH, pickE, posOf, setn, List.nil_append, List.cons_append, leF, leH_nil, leH_cons, leF_nil, lk, scp, scpL, scpO, resF, resH, resO, resV, resVL, nth, Nat.reduceBEq, Nat.reduceLT, decide_true, decide_false, List.length, List.length_cons, List.length_nil, Nat.reduceAdd, Bool.and_self, Bool.and_true, and_true, true_and, numF] <;> try simp))) ?_
 refine call_rule (vs := [.slice L z.length lc, .slice A1 first.length c1]) rfl (R := fun W v w' =>
   (serN (z.map (·.1)) first z.length = none ∧ v = .tuple #[.slice none 0 0, .bool false] ∧ ∃ ws' : List Int, ws'.length = first.length ∧ HeapOk ⟨w, w.heap.size, [], 0, []⟩ [.own 63 0 1 A1 first.length c1 (ws'.map uV)] w') ∨
   (∃ (h : List Ev) (ws' : List Int) (S : Option Addr) (sc : Nat), serN (z.map (·.1)) first z.length = some (h, ws') ∧ v = .tuple #[.slice S h.length sc, .bool true] ∧ HeapOk ⟨w, w.heap.size, [], 0, []⟩ [.own 63 0 1 A1 first.length c1 (ws'.map uV), .own 65 0 9 S h.length sc (cellsE h)] w')) (fun W hW => serial46 L A1 lc c1 z first W w w.heap.size [] (rowE0 hL 0 []) (fun p hp => rowE0 (hops p hp) 0 []) (HeapOk.env (E := ⟨w, w.heap.size, [], 166, []⟩) (E' := ⟨w, w.heap.size, [], 0, []⟩) rfl rfl rfl hW) h1 h2) fun W v W' hW hr => ?_
 rcases hr with ⟨hs, hv, ws', hl', hh⟩ | ⟨h, ws', S, sc, hs, hv, hh⟩
 ·refine ⟨.tup [.val (.slice none 0 0), .bf], _, by rw [hv]; simp [Is, IsL], HExt.setOwn (i := 0) rfl (Nat.le_refl _) (fun _ => ⟨rfl, rfl, rfl⟩), HeapOk.env (E := ⟨w, w.heap.size, [], 0, []⟩) (E' := ⟨w, w.heap.size, [], 166, []⟩) rfl rfl rfl hh, ?_⟩
  (refine Y_go 600 ?_; dsimp only [zq8t, setn, Y_k, zq4u, zq8o, zq6n, Nat.reduceBEq, zq6k, YK, zq5j, zq2f, nth, zq2e, zq6l, zq9i, normF, zq6m, zq86, zq8a, zq87, zq8f, zq89, zq9y, t11n21, T11n21, zq9r, zq9q, zq53, zq0n, zq9s, zq6f, YC, t11n1, T11n1, zq9x])
  exact done _ rfl
 refine ⟨.tup [.own 1 0, .bt], [.own 63 0 1 A1 first.length c1 (ws'.map uV)] ++ [.own 65 0 9 S h.length sc (cellsE h)], ?_, (HExt.setOwn (i := 0) (t' := 63) (ver' := 0) (sz' := 1) (A' := A1) (n' := first.length) (c' := c1) (xs' := ws'.map uV) rfl (Nat.le_refl _) (fun _ => ⟨rfl, rfl, rfl⟩)).trans' (HExt.push _ _), HeapOk.env (E := ⟨w, w.heap.size, [], 0, []⟩) (E' := ⟨w, w.heap.size, [], 166, []⟩) rfl rfl rfl hh, ?_⟩
 ·rw [hv]
  simp only [Is, IsL]
  exact ⟨_, ⟨_, _, ⟨_, _, _, _, _, _, _, rfl, Nat.le_refl _, ⟨_, _, _, rfl⟩, fun _ => rfl⟩, ⟨_, _, rfl, rfl, rfl⟩, rfl⟩, rfl⟩
 clear hv hh hW W W'
 simp only [List.cons_append, List.nil_append]
 (refine Y_go 600 ?_; dsimp only [zq8t, Y_k, zq4u, zq8o, zq6n, Nat.reduceBEq, zq6k, YK, zq5j, zq2f, nth, zq2e, zq6l, zq9i, normF, zq6m, zq86, zq89, zq8f, zq8a, zq87, zq9y, t11n21, T11n21, zq9r, zq9q, zq53, zq0m, zq9s, zq6g, YC, zq9p, t11n20, T11n20, zq9j])
 obtain ⟨la, good⟩ := ser_good hs
 have hwl := ser_len hs
 have hhl := ser_hlen hs
 have hzl : (z.map (·.1)).length = z.length := by simp
 have hh6 : h.length ≤ 600 := by omega
 have hjn : frst (badAt h la (begL first)) h.length = none := frst_none good.ok
 have hfin : finL h la first first.length = ws' := by
  unfold finL
  apply List.ext_getElem?
  intro j
  by_cases hj : j < first.length
  ·rw [List.getElem?_map, List.getElem?_range hj, Option.map_some, good.mem, begL_F]
   unfold firF
   rw [if_pos (by omega), Int.toNat_natCast, List.getD_eq_getElem?_getD, List.getElem?_eq_getElem (by omega)]; rfl
  ·rw [List.getElem?_eq_none (by simp; omega), List.getElem?_eq_none (by omega)]
 refine call_val (R := fun v => v = .tuple #[.int .i64 0, .bool true, .int .i64 0]) (vs := [.slice S h.length sc, .slice A' first.length c']) rfl (fun W hW => (judge40 S A' sc c' h first W (hW.rowAt (i := 1) rfl) (hF.keep hW.fresh') (by omega) (by omega)).mono ?_) fun v hv => ⟨.tup [.val (.int .i64 0), .bt, .val (.int .i64 0)], by rw [hv]; simp [Is, IsL], ?_⟩
 ·rintro v W' ⟨⟨q1, _⟩ | ⟨l', q1, q2⟩, q3⟩
  ·rw [good.sp] at q1; cases q1
  ·rw [good.sp] at q1; injection q1 with q1; subst q1
   refine ⟨?_, q3⟩
   rw [q2]; unfold judR; rw [hjn]; rfl
 (refine Y_go 600 ?_; dsimp only [zq8t, Y_k, zq4u, zq8o, zq6n, Nat.reduceBEq, zq6k, YK, zq5j, zq2f, nth, zq2e, zq6l, zq9i, normF, zq6m, zq86, zq8a, zq87, zq89, zq8f, zq9y, t11n19, T11n19, zq9r, zq9q, zq55, zq0r, zq9j])
 refine call_rule (vs := [.slice S h.length sc, .slice A' first.length c', .int .i64 first.length]) rfl (R := fun W v w' => ∃ (D : Option Addr) (dc : Nat), v = .tuple #[.slice D first.length dc, .int .i64 0] ∧ World.ownsB w' W.heap.size 63 1 (.slice D first.length dc) first.length (ws'.map uV) ∧ Fresh W w') (fun W hW => (final41 S A' sc c' h first first.length W (hW.rowAt (i := 1) rfl) (hF.keep hW.fresh') (by omega) (by omega)).mono ?_) fun W v W' hW hr => ?_
 ·rintro v W' ⟨⟨q1, _⟩ | ⟨_, _, l', D, dc, q1, q2, q4⟩, q3⟩
  ·rcases q1 with q1 | q1
   ·rw [good.sp] at q1; cases q1
   ·omega
  ·rw [good.sp] at q1; injection q1 with q1; subst q1
   rw [Int.toNat_natCast] at q2 q4
   rw [hfin] at q4
   exact ⟨D, dc, q2, q4, q3⟩
 obtain ⟨D, dc, hv, ho, hf⟩ := hr
 obtain ⟨D2, dc2, e3, x3, k3, i3⟩ := hW.gain ho hf
 injection e3 with e3 _ e4; subst e3; subst e4
 refine ⟨.tup [.own 2 0, .val (.int .i64 0)], _, ?_, x3, k3, ?_⟩
 ·rw [hv]
  simp only [Is, IsL] at i3 ⊢
  exact ⟨_, ⟨_, _, i3, ⟨_, _, rfl, rfl, rfl⟩, rfl⟩, rfl⟩
 clear hv hf hW ho x3 k3 i3 W W'
 simp only [List.cons_append, List.nil_append]
 (refine Y_go 600 ?_; dsimp only [zq8t, Y_k, zq4u, zq8o, zq6n, Nat.reduceBEq, zq6k, YK, zq5j, zq2f, nth, zq2e, zq6l, zq9i, normF, zq6m, zq86, zq8a, zq87, zq8f, zq89, zq9y, t11n18, T11n18, zq9r, zq9q, zq53, zq0m, Y_gk, zq6c, YR, zq50, zq8p, zq6q, zq04, zq92, zq9b, zq0i, zq9d, zq4v, zq6o, zq0c, zq6e, YS, zq6a, zq0b, zq9s, zq6f, YC, t11n2, T11n2, zq6p, zq9x, zq55, zq0t, zq09, zq08, zq0q, zq6h, zq8x, zq9p, t11n17, T11n17, zq9t, zq9v])
 refine ⟨fun q => absurd q (by decide), fun _ => ⟨fun q => absurd q (by decide), fun _ => ⟨fun q => absurd q (by simp), fun _ => ?_⟩⟩⟩
 refine loop_go (α := Nat) (fun i => i ≤ first.length) (fun _ => ⟨w, w.heap.size, [], 166, []⟩)
  (fun i => { F := [(0, .val (.slice L z.length lc)), (1, .val (.slice A' first.length c')), (2, .val (.int .i64 t)), (6, .bf), (7, .bt), (8, .own 0 0), (9, .own 1 0), (10, .bt), (12, .bt), (13, .val (.int .i64 0)), (14, .own 2 0), (15, .val (.int .i64 0)), (16, .val (.int .i64 i))], H := [.own 63 0 1 A1 first.length c1 (ws'.map uV), .own 65 0 9 S h.length sc (cellsE h), .own 63 0 1 D first.length dc (ws'.map uV)] }) (fun i => first.length - i) (fun _ => rfl) ?start ?round
 case start =>
  intro a W rep
  exact ⟨0, Nat.zero_le _, rep.le (by (simp only [setn, List.nil_append, List.cons_append, leF, leH_nil, leH_cons, leF_nil, lk, scp, scpL, scpO, resF, resH, resO, resV, resVL, nth, Nat.reduceBEq, Nat.reduceLT, decide_true, decide_false, List.length, List.length_cons, List.length_nil, Nat.reduceAdd, Bool.and_self, Bool.and_true, and_true, true_and, numF] <;> try simp)) (by (simp only [setn, List.nil_append, List.cons_append, leF, leH_nil, leH_cons, leF_nil, lk, scp, scpL, scpO, resF, resH, resO, resV, resVL, nth, Nat.reduceBEq, Nat.reduceLT, decide_true, decide_false, List.length, List.length_cons, List.length_nil, Nat.reduceAdd, Bool.and_self, Bool.and_true, and_true, true_and, numF] <;> try simp))⟩
 case round =>
  intro i hi I again
  have hi : i ≤ first.length := hi
  by_cases hlt : i < first.length
  ·(refine Y_go 600 ?_; dsimp only [zq9y, t11n6, T11n6, zq9r, zq9q, Y_k, zq4u, zq8o, zq6n, Nat.reduceBEq, zq6l, zq6k, YK, zq8t, zq55, zq0t, nth, zq09, zq08, zq0q, zq50, zq04, zq92, zq9b, zq0i, zq9e, zq9i, normF, zq6m, zq86, zq87, zq8f, zq89, zq8a, zq9s, zq6h, zq8x, YC, zq9p, t11n5, T11n5, zq9t, zq58, zq06, zq0y, zq0v, zq5c, zq1q, zq1n, zq1c, List.nil_append, zq1b, zq18, zq96, zq9d, t11n3, T11n3, zq8p, zq6p, zq9x, zqa1, t11n4, T11n4, zq4w, zq6q, zq0e, zqa2, zq9u, popTo, zq6i, YP, t11n16, T11n16, Y_gk, zq6e, YS, zq6a, zq4v, zq6o, zq0b, zq6f, t11n7, T11n7, YR, zq6c, zq9h, zq0c, zq5a, zq15, Nat.add_zero, zq13, t11n15, T11n15, zq9v])
   refine ⟨fun _ => ?_, fun q => absurd (of_decide_eq_false q) (by omega)⟩
   have hwv : (ws'.map uV)[(i : Int).toNat * 1]? = some (.int .u64 (ws'.getD i 0)) := by
    rw [Int.toNat_natCast, Nat.mul_one, List.getElem?_map, List.getD_eq_getElem?_getD, List.getElem?_eq_getElem (by omega)]; rfl
   refine ⟨⟨by omega, by omega⟩, _, hwv, ⟨by omega, by omega⟩, _, hwv, fun q => absurd q (by simp), fun _ => ⟨((i + 1 : Nat) : Int), ArOk.to (by omega) (by omega) (by omega), lend_rule fun a W rep => again (i + 1) hlt (by omega) a W (rep.le (by (simp only [setn, List.nil_append, List.cons_append, leF, leH_nil, leH_cons, leF_nil, lk, scp, scpL, scpO, resF, resH, resO, resV, resVL, nth, Nat.reduceBEq, Nat.reduceLT, decide_true, decide_false, List.length, List.length_cons, List.length_nil, Nat.reduceAdd, Bool.and_self, Bool.and_true, and_true, true_and, numF] <;> try simp)) (by (simp only [setn, List.nil_append, List.cons_append, leF, leH_nil, leH_cons, leF_nil, lk, scp, scpL, scpO, resF, resH, resO, resV, resVL, nth, Nat.reduceBEq, Nat.reduceLT, decide_true, decide_false, List.length, List.length_cons, List.length_nil, Nat.reduceAdd, Bool.and_self, Bool.and_true, and_true, true_and, numF] <;> try simp)))⟩⟩
  ·(refine Y_go 600 ?_; dsimp only [zq9y, t11n6, T11n6, zq9r, zq9q, Y_k, zq4u, zq8o, zq6n, Nat.reduceBEq, zq6l, zq6k, YK, zq8t, zq55, zq0t, nth, zq09, zq08, zq0q, zq50, zq04, zq92, zq9b, zq0i, zq9e, zq9i, normF, zq6m, zq86, zq87, zq8f, zq89, zq8a, zq9s, zq6h, zq8x, YC, zq9p, t11n5, T11n5, zq9t, zq58, zq06, zq0y, zq0v, zq5c, zq1q, zq1n, zq1c, List.nil_append, zq1b, zq18, zq96, zq9d, t11n3, T11n3, zq8p, zq6p, zq9x, zqa1, t11n4, T11n4, zq4w, zq6q, zq0e, zqa2, zq9u, popTo, zq6i, YP, t11n16, T11n16, Y_gk, zq6e, YS, zq6a, zq4v, zq6o, zq0b, zq6f, t11n7, T11n7, YR, zq6c, zq9h, zq0c, zq5a, zq15, Nat.add_zero, zq13, t11n15, T11n15, zq9v])
   refine ⟨fun q => absurd (of_decide_eq_true q) (by omega), fun _ => ?_⟩
   clear again
   refine ⟨fun _ => done _ rfl, fun q0 => ⟨fun _ => done _ rfl, fun q1 => ?_⟩⟩
   obtain ⟨n, rfl⟩ : ∃ n : Nat, t = n := ⟨t.toNat, by have := of_decide_eq_false q0; omega⟩
   have hn : n < h.length := by have := of_decide_eq_false q1; omega
   have hcell : ∀ k v, (evA h n).cells[k]? = some v → (cellsE h)[(n : Int).toNat * 9 + k]? = some v := fun k v hk => by
    rw [Int.toNat_natCast, cellsE_get h hn (List.getElem?_eq_some_iff.1 hk).1, ← evA_lt hn]; exact hk
   refine ⟨⟨by omega, by omega⟩, _, hcell 0 _ rfl, fun _ => done _ rfl, fun hk2 => ?_⟩
   refine ⟨(n : Int) - 1, ArOk.toSub rfl (by omega) (by omega), ?_⟩
   refine loop_go (α := Nat) (fun m => m ≤ n ∧ ∀ j, m ≤ j → j < n → (evA h j).kind ≠ 1 ∧ ((evA h j).kind = 3 → (evA h j).addr ≠ (evA h n).addr)) (fun _ => ⟨w, w.heap.size, [], 166, []⟩)
    (fun m => { F := [(0, .val (.slice L z.length lc)), (1, .val (.slice A' first.length c')), (2, .val (.int .i64 n)), (6, .bf), (7, .bt), (8, .own 0 0), (9, .own 1 0), (10, .bt), (12, .bt), (13, .val (.int .i64 0)), (14, .own 2 0), (15, .val (.int .i64 0)), (17, .val (.int .i64 ((m : Int) - 1)))], H := [.own 63 0 1 A1 first.length c1 (ws'.map uV), .own 65 0 9 S h.length sc (cellsE h), .own 63 0 1 D first.length dc (ws'.map uV)] }) (fun m => m) (fun _ => rfl) ?start ?round
   case start =>
    intro a W rep
    exact ⟨n, ⟨Nat.le_refl _, fun j h1 h2 => by omega⟩, rep.le (by (simp only [setn, List.nil_append, List.cons_append, leF, leH_nil, leH_cons, leF_nil, lk, scp, scpL, scpO, resF, resH, resO, resV, resVL, nth, Nat.reduceBEq, Nat.reduceLT, decide_true, decide_false, List.length, List.length_cons, List.length_nil, Nat.reduceAdd, Bool.and_self, Bool.and_true, and_true, true_and, numF] <;> try simp)) (by (simp only [setn, List.nil_append, List.cons_append, leF, leH_nil, leH_cons, leF_nil, lk, scp, scpL, scpO, resF, resH, resO, resV, resVL, nth, Nat.reduceBEq, Nat.reduceLT, decide_true, decide_false, List.length, List.length_cons, List.length_nil, Nat.reduceAdd, Bool.and_self, Bool.and_true, and_true, true_and, numF] <;> try simp))⟩
   case round =>
    intro m hm I again
    obtain ⟨hm, hall⟩ := hm
    by_cases h0 : m = 0
    ·subst h0
     have hno : NoSt h n := fun j hj hh h3 => (hall j (by omega) hj).2 h3
     (refine Y_go 600 ?_; dsimp only [zq9y, t11n11, T11n11, zq9r, zq9q, Y_k, zq4u, zq8o, zq6n, Nat.reduceBEq, zq6l, zq6k, YK, zq8t, zq50, zq8p, zq6q, zq04, zq92, zq9b, zq0i, zq9h, Y_gk, zq6d, YR, zq69, zq58, zq06, zq0y, nth, zq09, zq08, zq0v, zq5a, zq15, Nat.add_zero, zq13, zq5c, zq1q, zq1n, zq1c, List.nil_append, zq1b, zq18, zq9d, zq4v, zq6p, zq0b, zq9i, normF, zq6m, zq86, zq87, zq8f, zq89, zq8a, zq9s, zq6h, zq8x, YC, zq9p, t11n10, T11n10, zq9t, zq9c, t11n8, T11n8, zq9x, zqa1, t11n9, T11n9, zq4w, zq0e, zqa2, YS, zq6b, zq0c, zq6g, zq9u, popTo, zq6i, YP, t11n14, T11n14, zq96, zq5d, zq7u, zq73, zq0a, zq1y, zq1w, denL, den, zq1v, splice, setn, zq8s, t11n13, T11n13, zq9j])
     refine ⟨fun q => absurd q (by decide), fun _ => ?_⟩
     refine ⟨⟨by omega, by omega⟩, _, hcell 7 _ rfl, IntKind.u64.wrap ((evA h n).value + 1), rfl, ⟨by omega, by omega⟩, by rw [cellsE_len]; omega, ?_⟩
     obtain ⟨lb, wrong⟩ := ser_wrong hs n (IntKind.u64.wrap ((evA h n).value + 1)) hn (by simpa using hk2) (wrap_ne _) hno
     rw [cells_turn hn]
     generalize hh' : h.set n { evA h n with value := IntKind.u64.wrap ((evA h n).value + 1) } = h' at wrong ⊢
     have hl' : h.length = h'.length := by rw [← hh', List.length_set]
     rw [hl']
     obtain ⟨bn, b1, b2⟩ := wrong.bad
     have hfn := frst_not b2 b1
     refine call_val (R := fun v => ∃ k : Int, v = .tuple #[.int .i64 k, .bool false, .int .i64 0]) (vs := [.slice S h'.length sc, .slice A' first.length c']) rfl (fun W hW => (judge40 S A' sc c' h' first W (hW.rowAt (i := 1) rfl) (hF.keep hW.fresh') (by omega) (by omega)).mono ?_) fun v ⟨jk, hv⟩ => ⟨.tup [.val (.int .i64 jk), .bf, .val (.int .i64 0)], by rw [hv]; simp [Is, IsL], ?_⟩
     ·rintro v W' ⟨⟨q1, _⟩ | ⟨l', q1, q2⟩, q3⟩
      ·rw [wrong.sp] at q1; cases q1
      ·rw [wrong.sp] at q1; injection q1 with q1; subst q1
       refine ⟨?_, q3⟩
       rw [q2]; unfold judR
       cases hf : frst (badAt h' lb (begL first)) h'.length with
       | none => exact absurd hf hfn
       | some k => exact ⟨_, rfl⟩
     (refine Y_go 600 ?_; dsimp only [zq8t, Y_k, zq4u, zq8o, zq6n, Nat.reduceBEq, zq6k, YK, zq5j, zq2f, nth, zq2e, zq6l, zq9i, normF, zq6m, zq86, zq8a, zq87, zq8f, zq89, zq9y, t11n12, T11n12, zq9r, zq9q, Y_gk, zq69, YR, zq53, zq0n, zq4v, zq8p, zq6p, zq0b, zq50, zq6q, zq04, zq92, zq9b, zq0i, zq9c, zq9x])
     exact ret_rule (vs := [.bool true]) r11 rfl rfl fun W hW => hR _ _ ⟨rfl, hW.fresh'⟩
    ·obtain ⟨m, rfl⟩ : ∃ k, m = k + 1 := ⟨m - 1, by omega⟩
     rw [show ((m + 1 : Nat) : Int) - 1 = (m : Int) by omega]
     have hcm : ∀ k v, (evA h m).cells[k]? = some v → (cellsE h)[(m : Int).toNat * 9 + k]? = some v := fun k v hk => by
      rw [Int.toNat_natCast, cellsE_get h (by omega) (List.getElem?_eq_some_iff.1 hk).1, ← evA_lt (by omega)]; exact hk
     have next : (evA h m).kind ≠ 1 → ((evA h m).kind = 3 → (evA h m).addr ≠ (evA h n).addr) → ∀ (a : Act) (W : World), Rep ⟨w, w.heap.size, [], 166, []⟩ { F := [(0, .val (.slice L z.length lc)), (1, .val (.slice A' first.length c')), (2, .val (.int .i64 n)), (6, .bf), (7, .bt), (8, .own 0 0), (9, .own 1 0), (10, .bt), (12, .bt), (13, .val (.int .i64 0)), (14, .own 2 0), (15, .val (.int .i64 0)), (17, .val (.int .i64 ((m : Int) - 1)))], H := [.own 63 0 1 A1 first.length c1 (ws'.map uV), .own 65 0 9 S h.length sc (cellsE h), .own 63 0 1 D first.length dc (ws'.map uV)] } a W → I a W := fun k1 k2 a W rep =>
      again m ⟨by omega, fun j j1 j2 => by
       by_cases e : j = m
       ·subst e; exact ⟨k1, k2⟩
       ·exact hall j (by omega) j2⟩ (by omega) a W rep
     (refine Y_go 600 ?_; dsimp only [zq9y, t11n11, T11n11, zq9r, zq9q, Y_k, zq4u, zq8o, zq6n, Nat.reduceBEq, zq6l, zq6k, YK, zq8t, zq50, zq8p, zq6q, zq04, zq92, zq9b, zq0i, zq9h, Y_gk, zq6d, YR, zq69, zq58, zq06, zq0y, nth, zq09, zq08, zq0v, zq5a, zq15, Nat.add_zero, zq13, zq5c, zq1q, zq1n, zq1c, List.nil_append, zq1b, zq18, zq9d, zq4v, zq6p, zq0b, zq9i, normF, zq6m, zq86, zq87, zq8f, zq89, zq8a, zq9s, zq6h, zq8x, YC, zq9p, t11n10, T11n10, zq9t, zq9c, t11n8, T11n8, zq9x, zqa1, t11n9, T11n9, zq4w, zq0e, zqa2, YS, zq6b, zq0c, zq6g, zq9u, popTo, zq6i, YP, t11n14, T11n14, zq96, zq5d, zq7u, zq73, zq0a, zq1y, zq1w, denL, den, zq1v, splice, setn, zq8s, t11n13, T11n13, zq9j])
     refine ⟨fun _ => ?_, fun q => absurd (of_decide_eq_false q) (by omega)⟩
     refine ⟨⟨by omega, by omega⟩, _, hcm 0 _ rfl, fun k1 => ?_, fun k1 => ?_⟩
     ·have k1 : (evA h m).kind ≠ 1 := by simpa using k1
      refine ⟨⟨by omega, by omega⟩, _, hcm 0 _ rfl, fun k3 => ?_, fun k3 => ?_⟩
      ·refine ⟨⟨by omega, by omega⟩, _, hcm 6 _ rfl, ⟨by omega, by omega⟩, _, hcell 6 _ rfl, fun _ => done _ rfl, fun ka => ?_⟩
       exact ⟨(m : Int) - 1, ArOk.toSub rfl (by omega) (by omega), lend_rule fun a W rep => next k1 (fun _ => by simpa using ka) a W (rep.le (by (simp only [setn, List.nil_append, List.cons_append, leF, leH_nil, leH_cons, leF_nil, lk, scp, scpL, scpO, resF, resH, resO, resV, resVL, nth, Nat.reduceBEq, Nat.reduceLT, decide_true, decide_false, List.length, List.length_cons, List.length_nil, Nat.reduceAdd, Bool.and_self, Bool.and_true, and_true, true_and, numF] <;> try simp)) (by (simp only [setn, List.nil_append, List.cons_append, leF, leH_nil, leH_cons, leF_nil, lk, scp, scpL, scpO, resF, resH, resO, resV, resVL, nth, Nat.reduceBEq, Nat.reduceLT, decide_true, decide_false, List.length, List.length_cons, List.length_nil, Nat.reduceAdd, Bool.and_self, Bool.and_true, and_true, true_and, numF] <;> try simp)))⟩
      ·exact ⟨(m : Int) - 1, ArOk.toSub rfl (by omega) (by omega), lend_rule fun a W rep => next k1 (fun k3' => absurd k3' (by simpa using k3)) a W (rep.le (by (simp only [setn, List.nil_append, List.cons_append, leF, leH_nil, leH_cons, leF_nil, lk, scp, scpL, scpO, resF, resH, resO, resV, resVL, nth, Nat.reduceBEq, Nat.reduceLT, decide_true, decide_false, List.length, List.length_cons, List.length_nil, Nat.reduceAdd, Bool.and_self, Bool.and_true, and_true, true_and, numF] <;> try simp)) (by (simp only [setn, List.nil_append, List.cons_append, leF, leH_nil, leH_cons, leF_nil, lk, scp, scpL, scpO, resF, resH, resO, resV, resVL, nth, Nat.reduceBEq, Nat.reduceLT, decide_true, decide_false, List.length, List.length_cons, List.length_nil, Nat.reduceAdd, Bool.and_self, Bool.and_true, and_true, true_and, numF] <;> try simp)))⟩
     ·have k1 : (evA h m).kind = 1 := by simpa using k1
      have hno : NoSt h n := fun j hj hh h3 => (hall j (by
       refine Decidable.byContradiction fun hlt => hh m (by omega) (by omega) k1) hj).2 h3
      refine ⟨⟨by omega, by omega⟩, _, hcell 7 _ rfl, IntKind.u64.wrap ((evA h n).value + 1), rfl, ⟨by omega, by omega⟩, by rw [cellsE_len]; omega, ?_⟩
      obtain ⟨lb, wrong⟩ := ser_wrong hs n (IntKind.u64.wrap ((evA h n).value + 1)) hn (by simpa using hk2) (wrap_ne _) hno
      rw [cells_turn hn]
      generalize hh' : h.set n { evA h n with value := IntKind.u64.wrap ((evA h n).value + 1) } = h' at wrong ⊢
      have hl' : h.length = h'.length := by rw [← hh', List.length_set]
      rw [hl']
      obtain ⟨bn, b1, b2⟩ := wrong.bad
      have hfn := frst_not b2 b1
      refine call_val (R := fun v => ∃ k : Int, v = .tuple #[.int .i64 k, .bool false, .int .i64 0]) (vs := [.slice S h'.length sc, .slice A' first.length c']) rfl (fun W hW => (judge40 S A' sc c' h' first W (hW.rowAt (i := 1) rfl) (hF.keep hW.fresh') (by omega) (by omega)).mono ?_) fun v ⟨jk, hv⟩ => ⟨.tup [.val (.int .i64 jk), .bf, .val (.int .i64 0)], by rw [hv]; simp [Is, IsL], ?_⟩
      ·rintro v W' ⟨⟨q1, _⟩ | ⟨l', q1, q2⟩, q3⟩
       ·rw [wrong.sp] at q1; cases q1
       ·rw [wrong.sp] at q1; injection q1 with q1; subst q1
        refine ⟨?_, q3⟩
        rw [q2]; unfold judR
        cases hf : frst (badAt h' lb (begL first)) h'.length with
        | none => exact absurd hf hfn
        | some k => exact ⟨_, rfl⟩
      (refine Y_go 600 ?_; dsimp only [zq8t, Y_k, zq4u, zq8o, zq6n, Nat.reduceBEq, zq6k, YK, zq5j, zq2f, nth, zq2e, zq6l, zq9i, normF, zq6m, zq86, zq8a, zq87, zq8f, zq89, zq9y, t11n12, T11n12, zq9r, zq9q, Y_gk, zq69, YR, zq53, zq0n, zq4v, zq8p, zq6p, zq0b, zq50, zq6q, zq04, zq92, zq9b, zq0i, zq9c, zq9x])
      exact ret_rule (vs := [.bool true]) r11 rfl rfl fun W hW => hR _ _ ⟨rfl, hW.fresh'⟩
end Go.Proofs.Ytnedgfkgmdoahaa
