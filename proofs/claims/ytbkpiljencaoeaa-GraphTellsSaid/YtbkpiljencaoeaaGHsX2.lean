/- shuntref12.One: the attempt that begins at an event. -/
import Derived.Test.YtbkpiljencaoeaaGHsX1
import Derived.Test.YtbkpiljencaoeaaGHsCodeT
set_option linter.unusedSimpArgs false
set_option linter.unusedVariables false
set_option linter.unnecessarySimpa false
namespace Go.Proofs.Ytbkpiljencaoeaa
open Go Go.Sx Go.Hs
set_option maxRecDepth 100000
theorem oneTo_stop (h : List Ev) (k : Nat) {n : Nat} (ht : 0 ≤ (oneTo h k n).to) : ∀ m, n ≤ m → oneTo h k m = oneTo h k n := by
 intro m hm
 induction m with
 | zero => have : n = 0 := by omega
           subst this; rfl
 | succ m ih =>
  by_cases e : n = m + 1
  ·rw [e]
  ·have ih := ih (by omega)
   simp only [oneTo]
   rw [ih, if_neg (by omega)]
theorem oneTo_lens (h : List Ev) (k : Nat) : ∀ n, (oneTo h k n).loads.length ≤ n ∧ (oneTo h k n).stores.length ≤ n
 | 0 => ⟨Nat.le_refl _, Nat.le_refl _⟩
 | n + 1 => by
  have ih := oneTo_lens h k n
  simp only [oneTo]
  split
  ·have := hear_len (oneTo h k n) n (evA h n); omega
  ·omega
theorem cellsPr_put : ∀ (l : List Pr) (j : Nat) (a v : Int), j < l.length → setn (setn (cellsPr l) (j * 2) (.int .i64 a)) (j * 2 + 1) (.int .u64 v) = cellsPr (l.set j (a, v))
 | p :: l, 0, a, v, _ => rfl
 | p :: l, j + 1, a, v, hj => by
  have ih := cellsPr_put l j a v (by simpa using hj)
  have e : (j + 1) * 2 = j * 2 + 1 + 1 := by omega
  rw [e]
  show setn (setn (Value.int .i64 p.1 :: Value.int .u64 p.2 :: cellsPr l) (j * 2 + 1 + 1) _) (j * 2 + 1 + 1 + 1) _ = _
  simp only [setn]
  rw [ih]; rfl
theorem oneTo_com (h : List Ev) (k : Nat) : ∀ n, (oneTo h k n).to < 0 → (oneTo h k n).com = false
 | 0, _ => rfl
 | n + 1, ht => by
  simp only [oneTo] at ht ⊢
  split at ht
  ·rename_i hc
   rw [if_pos hc]
   have hto := hear_to (oneTo h k n) n (evA h n)
   have h56 : ¬ ((evA h n).kind = 5 ∨ (evA h n).kind = 6) := fun h56 => by rw [hto, if_pos h56] at ht; omega
   have ih := oneTo_com h k n hc.2.1
   unfold hearA loadA
   repeat' split
   all_goals first | exact ih | omega
  ·rename_i hc
   rw [if_neg hc]
   exact oneTo_com h k n ht
def svX (x : At) : List SV := [.val (.int .i64 x.core), .val (.int .i64 x.block), .val (.int .i64 x.tr), .val (.int .i64 x.lane), .val (.int .i64 x.frm), .val (.int .i64 x.point), .val (.int .i64 x.to), .own 2 0, .own 3 0, .val (.bool x.com), .val (.int .i64 x.code)]
def zB : List SV := [.val (.int .i64 0), .val (.int .i64 0), .val (.int .i64 0), .val (.int .i64 0), .val (.int .i64 0), .val (.int .i64 0), .val (.int .i64 0), .val (.slice none 0 0), .val (.slice none 0 0), .bf, .val (.int .i64 0)]
structure OnI where
 n : Nat
 lA : Option Addr
 lc : Nat
 sA : Option Addr
 sc : Nat
def hX (g0 gx : Nat) (y : At) (q : OnI) : List SO := [.cells g0 75 zB, .cells gx 75 (svX y), .own 85 0 2 q.lA y.loads.length q.lc (cellsPr y.loads), .own 85 0 2 q.sA y.stores.length q.sc (cellsPr y.stores)]
set_option maxHeartbeats 8000000 in
theorem one58 (A : Option Addr) (c : Nat) (h : List Ev) (k : Nat) (w : World) (hA : RowAt w A (cellsE h)) (hk : k < h.length) (hl : h.length ≤ 1000) (hlane : 1 ≤ (evA h k).lane) :
  CallsV Try.prog 72 [.slice A h.length c, .int .i64 k] w fun v w' => ∃ hd : Hd, v = .tuple #[.agg (cellsT (oneTo h k h.length) hd).toArray, .bool (oneTo h k h.length).odd] ∧ World.ownsB w' w.heap.size 85 2 (.slice hd.lA (oneTo h k h.length).loads.length hd.lc) (oneTo h k h.length).loads.length (cellsPr (oneTo h k h.length).loads) ∧ World.ownsB w' w.heap.size 85 2 (.slice hd.sA (oneTo h k h.length).stores.length hd.sc) (oneTo h k h.length).stores.length (cellsPr (oneTo h k h.length).stores) ∧ Fresh w w' := by
 refine calls_go (keep := K72) (nt := 183) (svs := [.val (.slice A h.length c), .val (.int .i64 k)]) Try.func72 x72 n72 (by simp) (by simp [IsL, Is]) fun R hR => ?_
 have hcell : ∀ n, n < h.length → ∀ k v, (evA h n).cells[k]? = some v → CellAt ⟨w, w.heap.size, [], 183, []⟩ A ((n : Int).toNat * 9 + k) v := fun n hn k v hk => evCell (rowE0 hA 183 []) hn k v hk
 have hsome : A.isSome = true := hA.isSome (j := k * 9) (by rw [cellsE_len]; omega)
 (refine Y_go 600 ?_; dsimp only [X72, numF, Nat.reduceAdd, zq9r, zq9q, Y_k, zq5e, List.length_nil, List.map, zq6q, zq6u, zq6p, List.nil_append, YK, zq8t, zq4u, zq8p, zq9i, normF, zq6n, Nat.reduceBEq, zq6l, zq6k, zq6m, zq86, zq8a, zq8c, zq87, zq9y, t72n27, T72n27, zq8o, zq58, zq06, zq0w, zq5c, zq1p, zq1c, List.cons_append, zq1b, zq17, List.length_cons, zq5d, zq7t, zq8l, zq73, zq8m, zq8k, zq0a, zq1x, nth, zq1t, dropL, takeL, zq1r, splice, setn, zq8s, t72n26, T72n26, zq5a, zq14, zq1o, zq1k, zq19, zq18, zq5g, zq21, zq7u, zq20, zq22, zq25, zq77, zq7i, t72n25, T72n25, t72n24, T72n24, zq4w, zq04, zq92, zq9b, zq0e, zq9t, zq9v])
 intro g0
 have cl := hcell k hk
 refine ⟨⟨by omega, by omega, hsome⟩, _, cl 0 _ rfl, _, cl 1 _ rfl, _, cl 2 _ rfl, _, cl 3 _ rfl, _, cl 4 _ rfl, _, cl 5 _ rfl, _, cl 6 _ rfl, _, cl 7 _ rfl, _, cl 8 _ rfl, fun g1 gx => ⟨((k + 1 : Nat) : Int), ArOk.to (by omega) (by omega) (by omega), ?_⟩⟩
 clear cl
 refine loop_go (α := OnI) (fun q => k < q.n ∧ q.n ≤ h.length) (fun _ => ⟨w, w.heap.size, [], 183, []⟩)
  (fun q => { F := [(0, .val (.slice A h.length c)), (4, .ptr 0 0), (7, .ptr 1 0), (8, .val (.bool (oneTo h k q.n).odd)), (9, .val (.int .i64 q.n))], H := hX g0 gx (oneTo h k q.n) q }) (fun q => h.length - q.n) (fun _ => rfl) ?start ?round
 case start =>
  intro a W rep
  have e := oneTo_new h k (k + 1) (Nat.le_refl _)
  refine ⟨⟨k + 1, none, 0, none, 0⟩, ⟨Nat.lt_succ_self k, hk⟩, ?_⟩
  show Rep _ { F := [(0, .val (.slice A h.length c)), (4, .ptr 0 0), (7, .ptr 1 0), (8, .val (.bool (oneTo h k (k + 1)).odd)), (9, .val (.int .i64 ((k + 1 : Nat) : Int)))], H := hX g0 gx (oneTo h k (k + 1)) ⟨k + 1, none, 0, none, 0⟩ } a W
  rw [e]
  have r1 : Rep ⟨w, w.heap.size, [], 183, []⟩ { F := [(0, .val (.slice A h.length c)), (4, .ptr 0 0), (7, .ptr 1 0), (8, .bf), (9, .val (.int .i64 ((k + 1 : Nat) : Int)))], H := [.cells g0 75 zB, .cells gx 75 [.val (.int .i64 (evA h k).core), .val (.int .i64 (evA h k).block), .val (.int .i64 (evA h k).tr), .val (.int .i64 (evA h k).lane), .val (.int .i64 k), .val (.int .i64 (-1)), .val (.int .i64 (-1)), .val (.slice none 0 0), .val (.slice none 0 0), .bf, .val (.int .i64 0)], .own 85 0 2 none 0 0 [], .own 85 0 2 none 0 0 []] } a W := (((rep.nilH 85 2).nilH 85 2).pick [0, 2, 3, 4] (by decide)).le (by (simp only [renF, renV, renVL, renO, pickH, pickE, posOf, setn, List.nil_append, List.cons_append, leF, leH_nil, leH_cons, leF_nil, lk, scp, scpL, scpO, resF, resH, resO, resV, resVL, nth, Nat.reduceBEq, Nat.reduceLT, decide_true, decide_false, List.length, List.length_cons, List.length_nil, Nat.reduceAdd, Bool.and_self, Bool.and_true, and_true, true_and, numF] <;> try simp)) (by simp only [zB]; (simp only [renF, renV, renVL, renO, pickH, pickE, posOf, setn, List.nil_append, List.cons_append, leF, leH_nil, leH_cons, leF_nil, lk, scp, scpL, scpO, resF, resH, resO, resV, resVL, nth, Nat.reduceBEq, Nat.reduceLT, decide_true, decide_false, List.length, List.length_cons, List.length_nil, Nat.reduceAdd, Bool.and_self, Bool.and_true, and_true, true_and, numF] <;> try simp))
  exact (rep_swap 8 (r1.cellsTo 1 (l' := svX (newA (evA h k) k)) rfl (LeV.is ⟨fun _ h => h, fun _ h => h, fun _ h => h, fun _ h => h, fun _ h => h, fun _ h => h, fun _ h => h, fun _ h => isl_nil rfl h, fun _ h => isl_nil rfl h, fun _ h => h, fun _ h => h, trivial⟩)) rfl (y := .val (.bool false)) fun v h => h).le (by simp only [hX]; (simp only [setn, List.nil_append, List.cons_append, leF, leH_nil, leH_cons, leF_nil, lk, scp, scpL, scpO, resF, resH, resO, resV, resVL, nth, Nat.reduceBEq, Nat.reduceLT, decide_true, decide_false, List.length, List.length_cons, List.length_nil, Nat.reduceAdd, Bool.and_self, Bool.and_true, and_true, true_and, numF] <;> try simp); rfl) (by simp only [setn, hX, svX, zB, newA]; (simp only [setn, List.nil_append, List.cons_append, leF, leH_nil, leH_cons, leF_nil, lk, scp, scpL, scpO, resF, resH, resO, resV, resVL, nth, Nat.reduceBEq, Nat.reduceLT, decide_true, decide_false, List.length, List.length_cons, List.length_nil, Nat.reduceAdd, Bool.and_self, Bool.and_true, and_true, true_and, numF] <;> try simp); rfl)
 case round =>
  rintro ⟨n, lA, lc, sA, sc⟩ ⟨hk1, hn⟩ I again
  have hk1 : k < n := hk1
  have hn : n ≤ h.length := hn
  have hto0 := oneTo_own h k n
  have hlens := oneTo_lens h k n
  have hcom := oneTo_com h k n
  have hnext : oneTo h k (n + 1) = if k < n ∧ (oneTo h k n).to < 0 ∧ ownB (oneTo h k n) (evA h n) = true then hearA (oneTo h k n) n (evA h n) else oneTo h k n := rfl
  have hstop := fun ht => oneTo_stop h k (n := n) ht h.length hn
  have hlast : n = h.length → oneTo h k h.length = oneTo h k n := fun e => by rw [e]
  simp only [hX] at again ⊢
  generalize hy : oneTo h k n = y at *
  simp only [svX, zB]
  (refine Y_go 600 ?_; dsimp only [zq9y, t72n22, T72n22, zq9r, zq9q, Y_k, zq4u, zq8o, zq6n, Nat.reduceBEq, zq6l, zq6k, YK, zq8t, zq55, zq0r, zq50, zq04, zq92, zq9b, zq0i, zq9e, Y_gk, zq6d, YR, zq5a, zq14, Nat.reduceAdd, zq69, zq5c, zq1o, nth, zq1k, List.length_cons, List.length_nil, dropL, takeL, zq19, zq18, zq8p, zq6q, zq4v, zq6p, zq0b, zq9i, normF, zq6m, zq86, zq87, zq8c, zq9s, zq6h, zq8x, YC, zq9p, t72n21, T72n21, zq9t, zq17, zq9j, zq9u, popTo, zq6i, YP, t72n23, T72n23, zq5d, zq7t, zq8l, zq73, zq8m, zq7n, zq7g, zq8k, zq0a, zq1x, zq1t, zq1r, splice, setn, zq8s, zq8a, zq9x, YS, zq6b, zq0c, zq6g])
  have fin : oneTo h k h.length = y → ∀ (F : List (Nat × SV)) (r : List SO), lk F 4 = .ptr 0 0 → lk F 5 = .val (.bool y.odd) → RetG (cxOf Try.prog Try.f72 K72 T72 R) ⟨w, w.heap.size, [], 183, []⟩ { F := F, H := [.cells g0 75 (svX y), .cells gx 75 (svX y), .own 85 0 2 lA y.loads.length lc (cellsPr y.loads), .own 85 0 2 sA y.stores.length sc (cellsPr y.stores)] ++ r } := by
   intro he F r h4 h5
   subst he
   refine ret_rv (vs := [.agg (cellsT (oneTo h k h.length) ⟨0, 0, lA, lc, sA, sc⟩).toArray, .bool (oneTo h k h.length).odd]) r72 rfl ?_ fun W hW => hR _ _ ⟨⟨0, 0, lA, lc, sA, sc⟩, rfl, hW.owns (i := 2) rfl, hW.owns (i := 3) rfl, hW.fresh'⟩
   simp only [denR, h4, h5]; rfl
  refine ⟨fun hlt => ⟨fun hto => ?_, fun hto => ?_⟩, fun hge => ?_⟩
  rotate_left
  ·exact fin (hstop (by have := of_decide_eq_false hto; omega)) _ [] rfl rfl
  ·exact fin (hlast (by have := of_decide_eq_false hge; omega)) _ [] rfl rfl
  have hlt : n < h.length := by have := of_decide_eq_true hlt; omega
  have hto : y.to < 0 := of_decide_eq_true hto
  have hcom := hcom hto
  have cl := hcell n hlt
  have hb : 0 ≤ (n : Int) ∧ (n : Int) < (h.length : Int) ∧ A.isSome = true := ⟨by omega, by omega, hsome⟩
  have hadd : ArOk .add .i64 (n : Int) 1 ((n + 1 : Nat) : Int) := ArOk.to (by omega) (by omega) (by omega)
  have hoi := ownN_iff y n (evA h n)
  have hob : ownN y n (evA h n) = ownB y (evA h n) := by unfold ownN; rw [decide_eq_true (by omega : y.frm < n)]; rfl
  have agn : ∀ (y' : At) (lA' : Option Addr) (lc' : Nat) (sA' : Option Addr) (sc' : Nat), oneTo h k (n + 1) = y' → ∀ (a : Act) (W : World), Rep ⟨w, w.heap.size, [], 183, []⟩ { F := [(0, .val (.slice A h.length c)), (4, .ptr 0 0), (7, .ptr 1 0), (8, .val (.bool y'.odd)), (9, .val (.int .i64 ((n + 1 : Nat) : Int)))], H := [.cells g0 75 zB, .cells gx 75 (svX y'), .own 85 0 2 lA' y'.loads.length lc' (cellsPr y'.loads), .own 85 0 2 sA' y'.stores.length sc' (cellsPr y'.stores)] } a W → I a W := by
   intro y' lA' lc' sA' sc' he a W rep
   subst he
   exact again ⟨n + 1, lA', lc', sA', sc'⟩ ⟨by show k < n + 1; omega, hlt⟩ (by show h.length - (n + 1) < h.length - n; omega) a W rep
  refine call_val (R := fun v => v = .bool (ownN y n (evA h n))) (vs := [.slice A h.length c, .agg (cellsT y ⟨0, 0, lA, lc, sA, sc⟩).toArray, .int .i64 n]) rfl (fun W hW => own71 A c h y _ n W (hA.keep hW.fresh') hlt) fun v hv => ⟨bsv (ownN y n (evA h n)), by rw [hv]; cases ownN y n (evA h n) <;> simp [Is, bsv], ?_⟩
  cases hown : ownN y n (evA h n) with
  | false =>
   simp only [bsv]
   (refine Y_go 600 ?_; dsimp only [zq8t, Y_k, zq4u, zq8o, zq6n, Nat.reduceBEq, zq6k, YK, zq9i, normF, zq6l, zq6m, zq86, zq89, zq8a, zq87, zq8c, zq9y, t72n19, T72n19, zq9r, zq9q, zq53, zq0n, zq9s, zq6f, YC, zq9u, popTo, zq6i, YP, t72n20, T72n20, zq4w, zq8p, zq6q, zq04, zq92, zq9b, zq0e, zqa2])
   refine ⟨_, hadd, lend_rule fun a W rep => agn y lA lc sA sc ?_ a W (rep.le (by (simp only [setn, List.nil_append, List.cons_append, leF, leH_nil, leH_cons, leF_nil, lk, scp, scpL, scpO, resF, resH, resO, resV, resVL, nth, Nat.reduceBEq, Nat.reduceLT, decide_true, decide_false, List.length, List.length_cons, List.length_nil, Nat.reduceAdd, Bool.and_self, Bool.and_true, and_true, true_and, numF] <;> try simp)) (by simp only [svX, zB]; (simp only [setn, List.nil_append, List.cons_append, leF, leH_nil, leH_cons, leF_nil, lk, scp, scpL, scpO, resF, resH, resO, resV, resVL, nth, Nat.reduceBEq, Nat.reduceLT, decide_true, decide_false, List.length, List.length_cons, List.length_nil, Nat.reduceAdd, Bool.and_self, Bool.and_true, and_true, true_and, numF] <;> try simp)))⟩
   rw [hnext, if_neg]
   rintro ⟨_, _, h3⟩
   rw [hob, h3] at hown; cases hown
  | true =>
  have hnx : oneTo h k (n + 1) = hearA y n (evA h n) := by rw [hnext, if_pos ⟨hk1, hto, by rw [← hob]; exact hown⟩]
  rw [hown] at hoi
  have hoi := hoi.1 rfl
  clear hnext hstop hlast hob again
  generalize evA h n = e at *
  have hlane2 : 1 ≤ y.lane := by rw [hto0.2.2.2.1]; exact hlane
  have c0 := cl 0 _ rfl
  have c6 := cl 6 _ rfl
  have c7 := cl 7 _ rfl
  have c8 := cl 8 _ rfl
  clear cl
  obtain ⟨kd, ti, co, bl, tr, la, ad, va, cd⟩ := e
  simp only at c0 c6 c7 c8 hoi
  have hkk : kd = 2 ∨ kd = 3 ∨ kd = 4 ∨ kd = 5 ∨ kd = 6 := by omega
  simp only [bsv]
  (refine Y_go 600 ?_; dsimp only [zq8t, Y_k, zq4u, zq8o, zq6n, Nat.reduceBEq, zq6k, YK, zq9i, normF, zq6l, zq6m, zq86, zq89, zq87, zq8c, zq9y, t72n19, T72n19, zq9r, zq9q, zq53, zq0m, zq8a, zq9s, zq6g, YC, zq9p, t72n18, T72n18, zq58, zq06, zq0w, zq5a, zq16, Nat.add_zero, zq5c, zq1p, zq1c, List.nil_append, zq1b, zq18, t72n17, T72n17, zq14, Nat.reduceAdd, zq1o, nth, zq1k, List.length_cons, List.length_nil, dropL, takeL, zq19, zq9j])
  refine ⟨hb, hsome, _, c0, hb, hsome, _, c6, ?_⟩
  refine call_val (R := fun v => v = .int .i64 (findI y.loads ad)) (vs := [.slice lA y.loads.length lc, .int .i64 ad]) rfl (fun W hW => at72 lA lc y.loads ad W (hW.rowAt (i := 2) rfl) (by omega)) fun v hv => ⟨.val (.int .i64 (findI y.loads ad)), by rw [hv]; simp [Is], ?_⟩
  (refine Y_go 600 ?_; dsimp only [zq8t, Y_k, zq4u, zq8o, zq6n, Nat.reduceBEq, zq6k, YK, zq9i, normF, zq6l, zq6m, zq86, zq8a, zq89, zq87, zq8c, zq9y, t72n16, T72n16, zq9r, zq9q, zq5a, zq14, Nat.reduceAdd, zq5c, zq1o, nth, zq1k, List.length_cons, List.length_nil, dropL, takeL, zq19, zq18, zq58, zq06, zq0w, zq16, zq1p, zq1c, List.nil_append, zq1b, zq9j])
  refine ⟨hb, hsome, _, c6, ?_⟩
  refine call_val (R := fun v => v = .int .i64 (findI y.stores ad)) (vs := [.slice sA y.stores.length sc, .int .i64 ad]) rfl (fun W hW => at72 sA sc y.stores ad W (hW.rowAt (i := 3) rfl) (by omega)) fun v hv => ⟨.val (.int .i64 (findI y.stores ad)), by rw [hv]; simp [Is], ?_⟩
  have hfl : findI y.loads ad = match findN y.loads ad with | some i => (i : Int) | none => -1 := rfl
  have hfs : findI y.stores ad = match findN y.stores ad with | some i => (i : Int) | none => -1 := rfl
  rcases hkk with rfl | rfl | rfl | rfl | rfl
  ·cases hj : findN y.stores ad with
   | some j =>
    have hfs2 : findI y.stores ad = (j : Int) := by rw [hfs, hj]
    rw [hfs2]
    clear hfs hfs2 hfl
    by_cases hl : y.lane ≤ 2
    ·have hy' : oneTo h k (n + 1) = { y with touched := tch y.touched ad, point := n } := by
      have hh : hardB y = true := by unfold hardB; simp; omega
      rw [hnx]
      unfold hearA
      rw [if_pos rfl, if_pos hh]
      unfold loadA
      simp only
      rw [hj]
     repeat' first
      | (refine lend_rule fun a W rep => agn _ lA lc sA sc hy' a W ?_; exact (rep.res).le (by (simp only [setn, List.nil_append, List.cons_append, leF, leH_nil, leH_cons, leF_nil, lk, scp, scpL, scpO, resF, resH, resO, resV, resVL, nth, Nat.reduceBEq, Nat.reduceLT, decide_true, decide_false, List.length, List.length_cons, List.length_nil, Nat.reduceAdd, Bool.and_self, Bool.and_true, and_true, true_and, numF] <;> try simp)) (by simp only [svX, zB]; (simp only [setn, List.nil_append, List.cons_append, leF, leH_nil, leH_cons, leF_nil, lk, scp, scpL, scpO, resF, resH, resO, resV, resVL, nth, Nat.reduceBEq, Nat.reduceLT, decide_true, decide_false, List.length, List.length_cons, List.length_nil, Nat.reduceAdd, Bool.and_self, Bool.and_true, and_true, true_and, numF] <;> try simp)))
      | (refine Y_go 8 ?_; dsimp only [zq8t, Y_k, zq4u, zq8o, zq6n, Nat.reduceBEq, zq6k, YK, zq9i, normF, zq6l, zq6m, zq86, zq8a, zq89, zq87, zq8c, zq9y, t72n15, T72n15, zq9r, zq9q, zq58, zq06, zq0w, Y_0, zq5a, zq16, zq5c, zq1p, zq1c, List.nil_append, zq1b, zq18, zq5g, List.map, zq6q, zq21, zq7u, zq73, zq0a, dropL, takeL, zq20, splice, setn, zq22, zq25, zq5e, List.length_cons, List.length_nil, Nat.reduceAdd, List.cons_append, zq5d, zq7t, zq8l, zq8m, zq8k, zq1x, nth, zq1t, zq1r, zq8s, t72n14, T72n14, zq50, zq8p, zq04, zq92, zq9b, zq0i, zq9c, Y_gk, zq6d, YR, zq69, zq9e, zq4v, zq6p, zq0b, zq9h, YS, zq6b, zq0c, t72n0, T72n0, zq9s, zq6g, YC, zq9p, t72n13, T72n13, zq6h, zq8x, t72n12, T72n12, t72n2, T72n2, zq14, t72n11, T72n11, t72n10, T72n10, zq1o, zq1k, zq19, zq9f, zq6e, zq6a, zq6c, zq03, zq6o, zq02, zq6f, t72n4, T72n4, t72n9, T72n9, t72n6, T72n6, t72n8, T72n8, t72n7, T72n7, zqa1, t72n20, T72n20, zq4w, zq0e, zqa2])
      | (refine ⟨fun q => ?_, fun q => ?_⟩ <;> first | (exfalso; revert q; decide) | (exfalso; simp only [decide_eq_true_eq, decide_eq_false_iff_not] at q <;> omega) | (exfalso; simp only [bne, hv, Bool.not_true, Bool.not_false, Bool.true_eq_false, Bool.false_eq_true] at q; done) | skip)
      | refine ⟨hb, ?_⟩
      | refine ⟨hsome, ?_⟩
      | refine ⟨_, c0, ?_⟩
      | refine ⟨_, c6, ?_⟩
      | refine ⟨_, c7, ?_⟩
      | refine ⟨_, c8, ?_⟩
      | refine ⟨_, hadd, ?_⟩
      | refine fun (g : Nat) => ?_
      | fail
    ·have hy' : oneTo h k (n + 1) = { y with touched := tch y.touched ad } := by
      have hh : hardB y = false := by unfold hardB; simp; omega
      rw [hnx]
      unfold hearA
      rw [if_pos rfl, if_neg (by rw [hh]; simp)]
      unfold loadA
      simp only
      rw [hj]
     repeat' first
      | (refine lend_rule fun a W rep => agn _ lA lc sA sc hy' a W ?_; exact (rep.res).le (by (simp only [setn, List.nil_append, List.cons_append, leF, leH_nil, leH_cons, leF_nil, lk, scp, scpL, scpO, resF, resH, resO, resV, resVL, nth, Nat.reduceBEq, Nat.reduceLT, decide_true, decide_false, List.length, List.length_cons, List.length_nil, Nat.reduceAdd, Bool.and_self, Bool.and_true, and_true, true_and, numF] <;> try simp)) (by simp only [svX, zB]; (simp only [setn, List.nil_append, List.cons_append, leF, leH_nil, leH_cons, leF_nil, lk, scp, scpL, scpO, resF, resH, resO, resV, resVL, nth, Nat.reduceBEq, Nat.reduceLT, decide_true, decide_false, List.length, List.length_cons, List.length_nil, Nat.reduceAdd, Bool.and_self, Bool.and_true, and_true, true_and, numF] <;> try simp)))
      | (refine Y_go 8 ?_; dsimp only [zq8t, Y_k, zq4u, zq8o, zq6n, Nat.reduceBEq, zq6k, YK, zq9i, normF, zq6l, zq6m, zq86, zq8a, zq89, zq87, zq8c, zq9y, t72n15, T72n15, zq9r, zq9q, zq58, zq06, zq0w, Y_0, zq5a, zq16, zq5c, zq1p, zq1c, List.nil_append, zq1b, zq18, zq5g, List.map, zq6q, zq21, zq7u, zq73, zq0a, dropL, takeL, zq20, splice, setn, zq22, zq25, zq5e, List.length_cons, List.length_nil, Nat.reduceAdd, List.cons_append, zq5d, zq7t, zq8l, zq8m, zq8k, zq1x, nth, zq1t, zq1r, zq8s, t72n14, T72n14, zq50, zq8p, zq04, zq92, zq9b, zq0i, zq9c, Y_gk, zq6d, YR, zq69, zq9e, zq4v, zq6p, zq0b, zq9h, YS, zq6b, zq0c, t72n0, T72n0, zq9s, zq6g, YC, zq9p, t72n13, T72n13, zq6h, zq8x, t72n12, T72n12, t72n2, T72n2, zq14, t72n11, T72n11, t72n10, T72n10, zq1o, zq1k, zq19, zq9f, zq6e, zq6a, zq6c, zq03, zq9g, zq6o, t72n4, T72n4, t72n9, T72n9, t72n6, T72n6, t72n8, T72n8, t72n7, T72n7, zqa1, t72n20, T72n20, zq4w, zq0e, zqa2])
      | (refine ⟨fun q => ?_, fun q => ?_⟩ <;> first | (exfalso; revert q; decide) | (exfalso; simp only [decide_eq_true_eq, decide_eq_false_iff_not] at q <;> omega) | (exfalso; simp only [bne, hv, Bool.not_true, Bool.not_false, Bool.true_eq_false, Bool.false_eq_true] at q; done) | skip)
      | refine ⟨hb, ?_⟩
      | refine ⟨hsome, ?_⟩
      | refine ⟨_, c0, ?_⟩
      | refine ⟨_, c6, ?_⟩
      | refine ⟨_, c7, ?_⟩
      | refine ⟨_, c8, ?_⟩
      | refine ⟨_, hadd, ?_⟩
      | refine fun (g : Nat) => ?_
      | fail
   | none =>
    have hfs2 : findI y.stores ad = -1 := by rw [hfs, hj]
    rw [hfs2]
    clear hfs hfs2
    cases hi : findN y.loads ad with
    | some i =>
     have hfl2 : findI y.loads ad = (i : Int) := by rw [hfl, hi]
     rw [hfl2]
     clear hfl hfl2
     obtain ⟨i1, i2, i3⟩ := findN_some hi
     have hbi : 0 ≤ (i : Int) ∧ (i : Int) < (y.loads.length : Int) := ⟨by omega, by omega⟩
     have lv : (cellsPr y.loads)[(i : Int).toNat * 2 + 1]? = some (.int .u64 (y.loads.getD i (0, 0)).2) := by rw [Int.toNat_natCast, cellsPr_get _ i1 (by omega), prs_get i1]; rfl
     cases hv : ((y.loads.getD i (0, 0)).2 == va) with
     | true =>
      by_cases hl : y.lane ≤ 2
      ·have hy' : oneTo h k (n + 1) = { y with touched := tch y.touched ad, point := n } := by
        have hh : hardB y = true := by unfold hardB; simp; omega
        rw [hnx]
        unfold hearA
        rw [if_pos rfl, if_pos hh]
        unfold loadA
        simp only
        rw [hj, hi]
        simp only
        rw [hv]
        simp
       repeat' first
        | (refine lend_rule fun a W rep => agn _ lA lc sA sc hy' a W ?_; exact (rep.res).le (by (simp only [setn, List.nil_append, List.cons_append, leF, leH_nil, leH_cons, leF_nil, lk, scp, scpL, scpO, resF, resH, resO, resV, resVL, nth, Nat.reduceBEq, Nat.reduceLT, decide_true, decide_false, List.length, List.length_cons, List.length_nil, Nat.reduceAdd, Bool.and_self, Bool.and_true, and_true, true_and, numF] <;> try simp)) (by simp only [svX, zB]; (simp only [setn, List.nil_append, List.cons_append, leF, leH_nil, leH_cons, leF_nil, lk, scp, scpL, scpO, resF, resH, resO, resV, resVL, nth, Nat.reduceBEq, Nat.reduceLT, decide_true, decide_false, List.length, List.length_cons, List.length_nil, Nat.reduceAdd, Bool.and_self, Bool.and_true, and_true, true_and, numF] <;> try simp)))
        | (refine Y_go 8 ?_; dsimp only [zq8t, Y_k, zq4u, zq8o, zq6n, Nat.reduceBEq, zq6k, YK, zq9i, normF, zq6l, zq6m, zq86, zq8a, zq89, zq87, zq8c, zq9y, t72n15, T72n15, zq9r, zq9q, zq58, zq06, zq0w, Y_0, zq5a, zq16, zq5c, zq1p, zq1c, List.nil_append, zq1b, zq18, zq5g, List.map, zq6q, zq21, zq7u, zq73, zq0a, dropL, takeL, zq20, splice, setn, zq22, zq25, zq5e, List.length_cons, List.length_nil, Nat.reduceAdd, List.cons_append, zq5d, zq7t, zq8l, zq8m, zq8k, zq1x, nth, zq1t, zq1r, zq8s, t72n14, T72n14, zq50, zq8p, zq04, zq92, zq9b, zq0i, zq9c, Y_gk, zq6d, YR, zq69, zq9e, zq4v, zq6p, zq0b, zq9h, YS, zq6b, zq0c, zq14, zq1o, zq1k, zq19, zq0y, zq09, zq08, zq0v, zq15, zq13, zq1q, zq1n, zq96, zq9d, t72n0, T72n0, zq9s, zq6h, zq8x, YC, zq9p, t72n13, T72n13, zq6g, t72n12, T72n12, t72n2, T72n2, t72n11, T72n11, t72n10, T72n10, zq9f, zq6e, zq6a, zq6c, zq03, zq6o, zq02, zq6f, t72n4, T72n4, t72n9, T72n9, t72n6, T72n6, t72n8, T72n8, t72n7, T72n7, zqa1, t72n20, T72n20, zq4w, zq0e, zqa2])
        | (refine ⟨fun q => ?_, fun q => ?_⟩ <;> first | (exfalso; revert q; decide) | (exfalso; simp only [decide_eq_true_eq, decide_eq_false_iff_not] at q <;> omega) | (exfalso; simp only [bne, hv, Bool.not_true, Bool.not_false, Bool.true_eq_false, Bool.false_eq_true] at q; done) | skip)
        | refine ⟨hb, ?_⟩
        | refine ⟨hsome, ?_⟩
        | refine ⟨_, c0, ?_⟩
        | refine ⟨_, c6, ?_⟩
        | refine ⟨_, c7, ?_⟩
        | refine ⟨_, c8, ?_⟩
        | refine ⟨hbi, ?_⟩
        | refine ⟨_, lv, ?_⟩
        | refine ⟨_, hadd, ?_⟩
        | refine fun (g : Nat) => ?_
        | fail
      ·have hy' : oneTo h k (n + 1) = { y with touched := tch y.touched ad } := by
        have hh : hardB y = false := by unfold hardB; simp; omega
        rw [hnx]
        unfold hearA
        rw [if_pos rfl, if_neg (by rw [hh]; simp)]
        unfold loadA
        simp only
        rw [hj, hi]
        simp only
        rw [hv]
        simp
       repeat' first
        | (refine lend_rule fun a W rep => agn _ lA lc sA sc hy' a W ?_; exact (rep.res).le (by (simp only [setn, List.nil_append, List.cons_append, leF, leH_nil, leH_cons, leF_nil, lk, scp, scpL, scpO, resF, resH, resO, resV, resVL, nth, Nat.reduceBEq, Nat.reduceLT, decide_true, decide_false, List.length, List.length_cons, List.length_nil, Nat.reduceAdd, Bool.and_self, Bool.and_true, and_true, true_and, numF] <;> try simp)) (by simp only [svX, zB]; (simp only [setn, List.nil_append, List.cons_append, leF, leH_nil, leH_cons, leF_nil, lk, scp, scpL, scpO, resF, resH, resO, resV, resVL, nth, Nat.reduceBEq, Nat.reduceLT, decide_true, decide_false, List.length, List.length_cons, List.length_nil, Nat.reduceAdd, Bool.and_self, Bool.and_true, and_true, true_and, numF] <;> try simp)))
        | (refine Y_go 8 ?_; dsimp only [zq8t, Y_k, zq4u, zq8o, zq6n, Nat.reduceBEq, zq6k, YK, zq9i, normF, zq6l, zq6m, zq86, zq8a, zq89, zq87, zq8c, zq9y, t72n15, T72n15, zq9r, zq9q, zq58, zq06, zq0w, Y_0, zq5a, zq16, zq5c, zq1p, zq1c, List.nil_append, zq1b, zq18, zq5g, List.map, zq6q, zq21, zq7u, zq73, zq0a, dropL, takeL, zq20, splice, setn, zq22, zq25, zq5e, List.length_cons, List.length_nil, Nat.reduceAdd, List.cons_append, zq5d, zq7t, zq8l, zq8m, zq8k, zq1x, nth, zq1t, zq1r, zq8s, t72n14, T72n14, zq50, zq8p, zq04, zq92, zq9b, zq0i, zq9c, Y_gk, zq6d, YR, zq69, zq9e, zq4v, zq6p, zq0b, zq9h, YS, zq6b, zq0c, zq14, zq1o, zq1k, zq19, zq0y, zq09, zq08, zq0v, zq15, zq13, zq1q, zq1n, zq96, zq9d, t72n0, T72n0, zq9s, zq6h, zq8x, YC, zq9p, t72n13, T72n13, zq6g, t72n12, T72n12, t72n2, T72n2, t72n11, T72n11, t72n10, T72n10, zq9f, zq6e, zq6a, zq6c, zq03, zq9g, zq6o, t72n4, T72n4, t72n9, T72n9, t72n6, T72n6, t72n8, T72n8, t72n7, T72n7, zqa1, t72n20, T72n20, zq4w, zq0e, zqa2])
        | (refine ⟨fun q => ?_, fun q => ?_⟩ <;> first | (exfalso; revert q; decide) | (exfalso; simp only [decide_eq_true_eq, decide_eq_false_iff_not] at q <;> omega) | (exfalso; simp only [bne, hv, Bool.not_true, Bool.not_false, Bool.true_eq_false, Bool.false_eq_true] at q; done) | skip)
        | refine ⟨hb, ?_⟩
        | refine ⟨hsome, ?_⟩
        | refine ⟨_, c0, ?_⟩
        | refine ⟨_, c6, ?_⟩
        | refine ⟨_, c7, ?_⟩
        | refine ⟨_, c8, ?_⟩
        | refine ⟨hbi, ?_⟩
        | refine ⟨_, lv, ?_⟩
        | refine ⟨_, hadd, ?_⟩
        | refine fun (g : Nat) => ?_
        | fail
     | false =>
      by_cases hl : y.lane ≤ 2
      ·have hy' : oneTo h k (n + 1) = { y with touched := tch y.touched ad, odd := true, point := n } := by
        have hh : hardB y = true := by unfold hardB; simp; omega
        rw [hnx]
        unfold hearA
        rw [if_pos rfl, if_pos hh]
        unfold loadA
        simp only
        rw [hj, hi]
        simp only
        rw [hv]
        simp
       repeat' first
        | (refine lend_rule fun a W rep => agn _ lA lc sA sc hy' a W ?_; exact (rep_swap 8 rep.res rfl (y := .val (.bool true)) fun v h => h).le (by (simp only [setn, List.nil_append, List.cons_append, leF, leH_nil, leH_cons, leF_nil, lk, scp, scpL, scpO, resF, resH, resO, resV, resVL, nth, Nat.reduceBEq, Nat.reduceLT, decide_true, decide_false, List.length, List.length_cons, List.length_nil, Nat.reduceAdd, Bool.and_self, Bool.and_true, and_true, true_and, numF] <;> try simp)) (by simp only [svX, zB]; (simp only [setn, List.nil_append, List.cons_append, leF, leH_nil, leH_cons, leF_nil, lk, scp, scpL, scpO, resF, resH, resO, resV, resVL, nth, Nat.reduceBEq, Nat.reduceLT, decide_true, decide_false, List.length, List.length_cons, List.length_nil, Nat.reduceAdd, Bool.and_self, Bool.and_true, and_true, true_and, numF] <;> try simp)))
        | (refine Y_go 8 ?_; dsimp only [zq8t, Y_k, zq4u, zq8o, zq6n, Nat.reduceBEq, zq6k, YK, zq9i, normF, zq6l, zq6m, zq86, zq8a, zq89, zq87, zq8c, zq9y, t72n15, T72n15, zq9r, zq9q, zq58, zq06, zq0w, Y_0, zq5a, zq16, zq5c, zq1p, zq1c, List.nil_append, zq1b, zq18, zq5g, List.map, zq6q, zq21, zq7u, zq73, zq0a, dropL, takeL, zq20, splice, setn, zq22, zq25, zq5e, List.length_cons, List.length_nil, Nat.reduceAdd, List.cons_append, zq5d, zq7t, zq8l, zq8m, zq8k, zq1x, nth, zq1t, zq1r, zq8s, t72n14, T72n14, zq50, zq8p, zq04, zq92, zq9b, zq0i, zq9c, Y_gk, zq6d, YR, zq69, zq9e, zq4v, zq6p, zq0b, zq9h, YS, zq6b, zq0c, zq14, zq1o, zq1k, zq19, zq0y, zq09, zq08, zq0v, zq15, zq13, zq1q, zq1n, zq96, zq9d, t72n0, T72n0, zq9s, zq6h, zq8x, YC, zq9p, zq6o, t72n13, T72n13, t72n1, T72n1, zq17, zq5h, repL, zq23, Nat.reduceMul, zq24, zq26, t72n12, T72n12, t72n2, T72n2, zq6g, t72n11, T72n11, t72n10, T72n10, zq9f, zq6e, zq6a, zq6c, zq9g, zq02, zq6f, t72n4, T72n4, t72n9, T72n9, t72n6, T72n6, t72n8, T72n8, t72n7, T72n7, zqa1, t72n20, T72n20, zq4w, zq0e, zqa2])
        | (refine ⟨fun q => ?_, fun q => ?_⟩ <;> first | (exfalso; revert q; decide) | (exfalso; simp only [decide_eq_true_eq, decide_eq_false_iff_not] at q <;> omega) | (exfalso; simp only [bne, hv, Bool.not_true, Bool.not_false, Bool.true_eq_false, Bool.false_eq_true] at q; done) | skip)
        | refine ⟨hb, ?_⟩
        | refine ⟨hsome, ?_⟩
        | refine ⟨_, c0, ?_⟩
        | refine ⟨_, c6, ?_⟩
        | refine ⟨_, c7, ?_⟩
        | refine ⟨_, c8, ?_⟩
        | refine ⟨hbi, ?_⟩
        | refine ⟨_, lv, ?_⟩
        | refine ⟨_, hadd, ?_⟩
        | refine fun (g : Nat) => ?_
        | fail
      ·have hy' : oneTo h k (n + 1) = { y with touched := tch y.touched ad, odd := true } := by
        have hh : hardB y = false := by unfold hardB; simp; omega
        rw [hnx]
        unfold hearA
        rw [if_pos rfl, if_neg (by rw [hh]; simp)]
        unfold loadA
        simp only
        rw [hj, hi]
        simp only
        rw [hv]
        simp
       repeat' first
        | (refine lend_rule fun a W rep => agn _ lA lc sA sc hy' a W ?_; exact (rep_swap 8 rep.res rfl (y := .val (.bool true)) fun v h => h).le (by (simp only [setn, List.nil_append, List.cons_append, leF, leH_nil, leH_cons, leF_nil, lk, scp, scpL, scpO, resF, resH, resO, resV, resVL, nth, Nat.reduceBEq, Nat.reduceLT, decide_true, decide_false, List.length, List.length_cons, List.length_nil, Nat.reduceAdd, Bool.and_self, Bool.and_true, and_true, true_and, numF] <;> try simp)) (by simp only [svX, zB]; (simp only [setn, List.nil_append, List.cons_append, leF, leH_nil, leH_cons, leF_nil, lk, scp, scpL, scpO, resF, resH, resO, resV, resVL, nth, Nat.reduceBEq, Nat.reduceLT, decide_true, decide_false, List.length, List.length_cons, List.length_nil, Nat.reduceAdd, Bool.and_self, Bool.and_true, and_true, true_and, numF] <;> try simp)))
        | (refine Y_go 8 ?_; dsimp only [zq8t, Y_k, zq4u, zq8o, zq6n, Nat.reduceBEq, zq6k, YK, zq9i, normF, zq6l, zq6m, zq86, zq8a, zq89, zq87, zq8c, zq9y, t72n15, T72n15, zq9r, zq9q, zq58, zq06, zq0w, Y_0, zq5a, zq16, zq5c, zq1p, zq1c, List.nil_append, zq1b, zq18, zq5g, List.map, zq6q, zq21, zq7u, zq73, zq0a, dropL, takeL, zq20, splice, setn, zq22, zq25, zq5e, List.length_cons, List.length_nil, Nat.reduceAdd, List.cons_append, zq5d, zq7t, zq8l, zq8m, zq8k, zq1x, nth, zq1t, zq1r, zq8s, t72n14, T72n14, zq50, zq8p, zq04, zq92, zq9b, zq0i, zq9c, Y_gk, zq6d, YR, zq69, zq9e, zq4v, zq6p, zq0b, zq9h, YS, zq6b, zq0c, zq14, zq1o, zq1k, zq19, zq0y, zq09, zq08, zq0v, zq15, zq13, zq1q, zq1n, zq96, zq9d, t72n0, T72n0, zq9s, zq6h, zq8x, YC, zq9p, zq6o, t72n13, T72n13, t72n1, T72n1, zq17, zq5h, repL, zq23, Nat.reduceMul, zq24, zq26, t72n12, T72n12, t72n2, T72n2, zq6g, t72n11, T72n11, t72n10, T72n10, zq9f, zq03, zq6c, zq9g, t72n4, T72n4, t72n9, T72n9, zq6e, t72n6, T72n6, t72n8, T72n8, t72n7, T72n7, zqa1, t72n20, T72n20, zq4w, zq0e, zqa2])
        | (refine ⟨fun q => ?_, fun q => ?_⟩ <;> first | (exfalso; revert q; decide) | (exfalso; simp only [decide_eq_true_eq, decide_eq_false_iff_not] at q <;> omega) | (exfalso; simp only [bne, hv, Bool.not_true, Bool.not_false, Bool.true_eq_false, Bool.false_eq_true] at q; done) | skip)
        | refine ⟨hb, ?_⟩
        | refine ⟨hsome, ?_⟩
        | refine ⟨_, c0, ?_⟩
        | refine ⟨_, c6, ?_⟩
        | refine ⟨_, c7, ?_⟩
        | refine ⟨_, c8, ?_⟩
        | refine ⟨hbi, ?_⟩
        | refine ⟨_, lv, ?_⟩
        | refine ⟨_, hadd, ?_⟩
        | refine fun (g : Nat) => ?_
        | fail
    | none =>
     have hfl2 : findI y.loads ad = -1 := by rw [hfl, hi]
     rw [hfl2]
     clear hfl hfl2
     have hbd : y.loads.length + 1 ≤ maxLen ∧ (y.loads.length + 1) * 16 ≤ 140737488355328 := ⟨by simp only [maxLen]; omega, by omega⟩
     have hc2 : cellsPr (y.loads ++ [(ad, va)]) = cellsPr y.loads ++ [.int .i64 ad, .int .u64 va] := by rw [cellsPr_app]; rfl
     by_cases hl : y.lane ≤ 2
     ·have hy' : oneTo h k (n + 1) = { y with touched := tch y.touched ad, loads := y.loads ++ [(ad, va)], point := n } := by
       have hh : hardB y = true := by unfold hardB; simp; omega
       rw [hnx]
       unfold hearA
       rw [if_pos rfl, if_pos hh]
       unfold loadA
       simp only
       rw [hj, hi]
      repeat' first
       | (refine lend_rule fun a W rep => agn _ A5 c5 sA sc hy' a W ?_; exact (rep.res).le (by (simp only [setn, List.nil_append, List.cons_append, leF, leH_nil, leH_cons, leF_nil, lk, scp, scpL, scpO, resF, resH, resO, resV, resVL, nth, Nat.reduceBEq, Nat.reduceLT, decide_true, decide_false, List.length, List.length_cons, List.length_nil, Nat.reduceAdd, Bool.and_self, Bool.and_true, and_true, true_and, numF] <;> try simp)) (by simp only [svX, zB, hc2, List.length_append, List.length_cons, List.length_nil]; (simp only [setn, List.nil_append, List.cons_append, leF, leH_nil, leH_cons, leF_nil, lk, scp, scpL, scpO, resF, resH, resO, resV, resVL, nth, Nat.reduceBEq, Nat.reduceLT, decide_true, decide_false, List.length, List.length_cons, List.length_nil, Nat.reduceAdd, Bool.and_self, Bool.and_true, and_true, true_and, numF] <;> try simp)))
       | (refine Y_go 8 ?_; dsimp only [zq8t, Y_k, zq4u, zq8o, zq6n, Nat.reduceBEq, zq6k, YK, zq9i, normF, zq6l, zq6m, zq86, zq8a, zq89, zq87, zq8c, zq9y, t72n15, T72n15, zq9r, zq9q, zq58, zq06, zq0w, Y_0, zq5a, zq16, zq5c, zq1p, zq1c, List.nil_append, zq1b, zq18, zq5g, List.map, zq6q, zq21, zq7u, zq73, zq0a, dropL, takeL, zq20, splice, setn, zq22, zq25, zq5e, List.length_cons, List.length_nil, Nat.reduceAdd, List.cons_append, zq5d, zq7t, zq8l, zq8m, zq8k, zq1x, nth, zq1t, zq1r, zq8s, t72n14, T72n14, zq50, zq8p, zq04, zq92, zq9b, zq0i, zq9c, Y_gk, zq6d, YR, zq69, zq9e, zq4v, zq6p, zq0b, zq9h, YS, zq6b, zq0c, zq14, zq1o, zq1k, zq19, zq0y, zq09, zq08, zq0v, Int.reduceToNat, Nat.reduceMul, zq15, zq13, zq1q, zq1n, t72n0, T72n0, zq9s, zq6g, YC, zq9p, t72n13, T72n13, zq6h, zq8x, t72n1, T72n1, zq17, zq5h, repL, zq23, zq24, zq26, zq5l, zq2w, zq2s, zq2r, zq2n, zq2j, zq2k, denL, den, zq2l, zq2h, zq81, zq7n, t72n12, T72n12, t72n2, T72n2, t72n11, T72n11, t72n10, T72n10, zq9f, zq6e, zq03, zq6a, zq6o, zq02, zq6f, t72n4, T72n4, t72n9, T72n9, zq6c, t72n8, T72n8, zqa1, t72n20, T72n20, zq4w, zq0e])
       | (refine ⟨fun q => ?_, fun q => ?_⟩ <;> first | (exfalso; revert q; decide) | (exfalso; simp only [decide_eq_true_eq, decide_eq_false_iff_not] at q <;> omega) | (exfalso; simp only [bne, hv, Bool.not_true, Bool.not_false, Bool.true_eq_false, Bool.false_eq_true] at q; done) | skip)
       | refine ⟨hb, ?_⟩
       | refine ⟨hsome, ?_⟩
       | refine ⟨_, c0, ?_⟩
       | refine ⟨_, c6, ?_⟩
       | refine ⟨_, c7, ?_⟩
       | refine ⟨_, c8, ?_⟩
       | refine ⟨hbd, fun A5 c5 => ?_⟩
       | refine ⟨_, hadd, ?_⟩
       | refine fun (g : Nat) => ?_
       | fail
     ·have hy' : oneTo h k (n + 1) = { y with touched := tch y.touched ad, loads := y.loads ++ [(ad, va)] } := by
       have hh : hardB y = false := by unfold hardB; simp; omega
       rw [hnx]
       unfold hearA
       rw [if_pos rfl, if_neg (by rw [hh]; simp)]
       unfold loadA
       simp only
       rw [hj, hi]
      repeat' first
       | (refine lend_rule fun a W rep => agn _ A5 c5 sA sc hy' a W ?_; exact (rep.res).le (by (simp only [setn, List.nil_append, List.cons_append, leF, leH_nil, leH_cons, leF_nil, lk, scp, scpL, scpO, resF, resH, resO, resV, resVL, nth, Nat.reduceBEq, Nat.reduceLT, decide_true, decide_false, List.length, List.length_cons, List.length_nil, Nat.reduceAdd, Bool.and_self, Bool.and_true, and_true, true_and, numF] <;> try simp)) (by simp only [svX, zB, hc2, List.length_append, List.length_cons, List.length_nil]; (simp only [setn, List.nil_append, List.cons_append, leF, leH_nil, leH_cons, leF_nil, lk, scp, scpL, scpO, resF, resH, resO, resV, resVL, nth, Nat.reduceBEq, Nat.reduceLT, decide_true, decide_false, List.length, List.length_cons, List.length_nil, Nat.reduceAdd, Bool.and_self, Bool.and_true, and_true, true_and, numF] <;> try simp)))
       | (refine Y_go 8 ?_; dsimp only [zq8t, Y_k, zq4u, zq8o, zq6n, Nat.reduceBEq, zq6k, YK, zq9i, normF, zq6l, zq6m, zq86, zq8a, zq89, zq87, zq8c, zq9y, t72n15, T72n15, zq9r, zq9q, zq58, zq06, zq0w, Y_0, zq5a, zq16, zq5c, zq1p, zq1c, List.nil_append, zq1b, zq18, zq5g, List.map, zq6q, zq21, zq7u, zq73, zq0a, dropL, takeL, zq20, splice, setn, zq22, zq25, zq5e, List.length_cons, List.length_nil, Nat.reduceAdd, List.cons_append, zq5d, zq7t, zq8l, zq8m, zq8k, zq1x, nth, zq1t, zq1r, zq8s, t72n14, T72n14, zq50, zq8p, zq04, zq92, zq9b, zq0i, zq9c, Y_gk, zq6d, YR, zq69, zq9e, zq4v, zq6p, zq0b, zq9h, YS, zq6b, zq0c, zq14, zq1o, zq1k, zq19, zq0y, zq09, zq08, zq0v, Int.reduceToNat, Nat.reduceMul, zq15, zq13, zq1q, zq1n, t72n0, T72n0, zq9s, zq6g, YC, zq9p, t72n13, T72n13, zq6h, zq8x, t72n1, T72n1, zq17, zq5h, repL, zq23, zq24, zq26, zq5l, zq2w, zq2s, zq2r, zq2n, zq2j, zq2k, denL, den, zq2l, zq2h, zq81, zq7n, t72n12, T72n12, t72n2, T72n2, t72n11, T72n11, t72n10, T72n10, zq9f, zq6e, zq03, zq6c, zq9g, zq6o, t72n4, T72n4, t72n9, T72n9, zq6a, t72n6, T72n6, t72n8, T72n8, t72n7, T72n7, zqa1, t72n20, T72n20, zq4w, zq0e, zqa2])
       | (refine ⟨fun q => ?_, fun q => ?_⟩ <;> first | (exfalso; revert q; decide) | (exfalso; simp only [decide_eq_true_eq, decide_eq_false_iff_not] at q <;> omega) | (exfalso; simp only [bne, hv, Bool.not_true, Bool.not_false, Bool.true_eq_false, Bool.false_eq_true] at q; done) | skip)
       | refine ⟨hb, ?_⟩
       | refine ⟨hsome, ?_⟩
       | refine ⟨_, c0, ?_⟩
       | refine ⟨_, c6, ?_⟩
       | refine ⟨_, c7, ?_⟩
       | refine ⟨_, c8, ?_⟩
       | refine ⟨hbd, fun A5 c5 => ?_⟩
       | refine ⟨_, hadd, ?_⟩
       | refine fun (g : Nat) => ?_
       | fail
  ·cases hj : findN y.stores ad with
   | some j =>
    have hfs2 : findI y.stores ad = (j : Int) := by rw [hfs, hj]
    rw [hfs2]
    clear hfs hfs2 hfl
    obtain ⟨i1, i2, i3⟩ := findN_some hj
    have hbi : 0 ≤ (j : Int) ∧ (j : Int) < (y.stores.length : Int) := ⟨by omega, by omega⟩
    have hlj : (j : Int).toNat * 2 + 2 ≤ (cellsPr y.stores).length := by rw [Int.toNat_natCast, cellsPr_len]; omega
    have hst : setn (setn (cellsPr y.stores) ((j : Int).toNat * 2) (.int .i64 ad)) ((j : Int).toNat * 2 + 1) (.int .u64 va) = cellsPr (y.stores.set j (ad, va)) := by rw [Int.toNat_natCast]; exact cellsPr_put _ _ _ _ i1
    have hy' : oneTo h k (n + 1) = { y with touched := tch y.touched ad, stores := y.stores.set j (ad, va) } := by
     rw [hnx]
     unfold hearA putS
     rw [if_neg (by simp), if_pos rfl]
     simp only
     rw [hj]
    repeat' first
     | (refine lend_rule fun a W rep => agn _ lA lc sA sc hy' a W ?_; exact (rep.res).le (by (simp only [setn, List.nil_append, List.cons_append, leF, leH_nil, leH_cons, leF_nil, lk, scp, scpL, scpO, resF, resH, resO, resV, resVL, nth, Nat.reduceBEq, Nat.reduceLT, decide_true, decide_false, List.length, List.length_cons, List.length_nil, Nat.reduceAdd, Bool.and_self, Bool.and_true, and_true, true_and, numF] <;> try simp)) (by simp only [svX, zB, hst, List.length_set]; (simp only [setn, List.nil_append, List.cons_append, leF, leH_nil, leH_cons, leF_nil, lk, scp, scpL, scpO, resF, resH, resO, resV, resVL, nth, Nat.reduceBEq, Nat.reduceLT, decide_true, decide_false, List.length, List.length_cons, List.length_nil, Nat.reduceAdd, Bool.and_self, Bool.and_true, and_true, true_and, numF] <;> try simp)))
     | (refine Y_go 8 ?_; dsimp only [zq8t, Y_k, zq4u, zq8o, zq6n, Nat.reduceBEq, zq6k, YK, zq9i, normF, zq6l, zq6m, zq86, zq8a, zq89, zq87, zq8c, zq9y, t72n15, T72n15, zq9r, zq9q, zq58, zq06, zq0w, Y_0, zq5a, zq16, zq5c, zq1p, zq1c, List.nil_append, zq1b, zq18, zq5g, List.map, zq6q, zq21, zq7u, zq73, zq0a, dropL, takeL, zq20, splice, setn, zq22, zq25, zq5e, List.length_cons, List.length_nil, Nat.reduceAdd, List.cons_append, zq5d, zq7t, zq8l, zq8m, zq8k, zq1x, nth, zq1t, zq1r, zq8s, t72n14, T72n14, zq50, zq8p, zq04, zq92, zq9b, zq0i, zq9c, Y_gk, zq6d, YR, zq69, zq9e, zq4v, zq6p, zq0b, zq9h, YS, zq6b, zq0c, t72n0, T72n0, zq9s, zq6g, YC, zq9p, t72n13, T72n13, t72n12, T72n12, zq6h, zq8x, t72n2, T72n2, zq14, t72n11, T72n11, zq1o, zq1k, zq19, zq17, zq0y, zq09, zq08, zq0v, zq1y, zq1w, denL, den, zq1v, t72n3, T72n3, zq5h, repL, zq23, Nat.reduceMul, zq24, zq26, t72n10, T72n10, zq9f, zq6e, zq6a, zq6c, zq03, zq6o, zq02, zq9g, t72n4, T72n4, t72n9, T72n9, t72n6, T72n6, t72n8, T72n8, t72n7, T72n7, zqa1, t72n20, T72n20, zq4w, zq0e, zqa2])
     | (refine ⟨fun q => ?_, fun q => ?_⟩ <;> first | (exfalso; revert q; decide) | (exfalso; simp only [decide_eq_true_eq, decide_eq_false_iff_not] at q <;> omega) | (exfalso; simp only [bne, hv, Bool.not_true, Bool.not_false, Bool.true_eq_false, Bool.false_eq_true] at q; done) | skip)
     | refine ⟨hb, ?_⟩
     | refine ⟨hsome, ?_⟩
     | refine ⟨_, c0, ?_⟩
     | refine ⟨_, c6, ?_⟩
     | refine ⟨_, c7, ?_⟩
     | refine ⟨_, c8, ?_⟩
     | refine ⟨hbi, ?_⟩
     | refine ⟨hlj, ?_⟩
     | refine ⟨_, hadd, ?_⟩
     | refine fun (g : Nat) => ?_
     | fail
   | none =>
    have hfs2 : findI y.stores ad = -1 := by rw [hfs, hj]
    rw [hfs2]
    clear hfs hfs2 hfl
    have hbd : y.stores.length + 1 ≤ maxLen ∧ (y.stores.length + 1) * 16 ≤ 140737488355328 := ⟨by simp only [maxLen]; omega, by omega⟩
    have hc2 : cellsPr (y.stores ++ [(ad, va)]) = cellsPr y.stores ++ [.int .i64 ad, .int .u64 va] := by rw [cellsPr_app]; rfl
    have hy' : oneTo h k (n + 1) = { y with touched := tch y.touched ad, stores := y.stores ++ [(ad, va)] } := by
     rw [hnx]
     unfold hearA putS
     rw [if_neg (by simp), if_pos rfl]
     simp only
     rw [hj]
    repeat' first
     | (refine lend_rule fun a W rep => agn _ lA lc A5 c5 hy' a W ?_; exact (rep.res).le (by (simp only [setn, List.nil_append, List.cons_append, leF, leH_nil, leH_cons, leF_nil, lk, scp, scpL, scpO, resF, resH, resO, resV, resVL, nth, Nat.reduceBEq, Nat.reduceLT, decide_true, decide_false, List.length, List.length_cons, List.length_nil, Nat.reduceAdd, Bool.and_self, Bool.and_true, and_true, true_and, numF] <;> try simp)) (by simp only [svX, zB, hc2, List.length_append, List.length_cons, List.length_nil]; (simp only [setn, List.nil_append, List.cons_append, leF, leH_nil, leH_cons, leF_nil, lk, scp, scpL, scpO, resF, resH, resO, resV, resVL, nth, Nat.reduceBEq, Nat.reduceLT, decide_true, decide_false, List.length, List.length_cons, List.length_nil, Nat.reduceAdd, Bool.and_self, Bool.and_true, and_true, true_and, numF] <;> try simp)))
     | (refine Y_go 8 ?_; dsimp only [zq8t, Y_k, zq4u, zq8o, zq6n, Nat.reduceBEq, zq6k, YK, zq9i, normF, zq6l, zq6m, zq86, zq8a, zq89, zq87, zq8c, zq9y, t72n15, T72n15, zq9r, zq9q, zq58, zq06, zq0w, Y_0, zq5a, zq16, zq5c, zq1p, zq1c, List.nil_append, zq1b, zq18, zq5g, List.map, zq6q, zq21, zq7u, zq73, zq0a, dropL, takeL, zq20, splice, setn, zq22, zq25, zq5e, List.length_cons, List.length_nil, Nat.reduceAdd, List.cons_append, zq5d, zq7t, zq8l, zq8m, zq8k, zq1x, nth, zq1t, zq1r, zq8s, t72n14, T72n14, zq50, zq8p, zq04, zq92, zq9b, zq0i, zq9c, Y_gk, zq6d, YR, zq69, zq9e, zq4v, zq6p, zq0b, zq9h, YS, zq6b, zq0c, t72n0, T72n0, zq9s, zq6g, YC, zq9p, t72n13, T72n13, t72n12, T72n12, zq6h, zq8x, t72n2, T72n2, zq14, t72n11, T72n11, t72n3, T72n3, zq1o, zq1k, zq19, zq17, zq5h, repL, zq23, Nat.reduceMul, zq24, zq26, t72n10, T72n10, zq5l, zq2w, zq09, zq08, zq2s, zq2r, zq2n, zq2j, zq2k, denL, den, zq2l, zq2h, zq81, zq7n, zq9f, zq6e, zq03, zq6c, zq6o, zq6a, zq9g, t72n4, T72n4, t72n9, T72n9, t72n6, T72n6, t72n8, T72n8, t72n7, T72n7, zqa1, t72n20, T72n20, zq4w, zq0e, zqa2])
     | (refine ⟨fun q => ?_, fun q => ?_⟩ <;> first | (exfalso; revert q; decide) | (exfalso; simp only [decide_eq_true_eq, decide_eq_false_iff_not] at q <;> omega) | (exfalso; simp only [bne, hv, Bool.not_true, Bool.not_false, Bool.true_eq_false, Bool.false_eq_true] at q; done) | skip)
     | refine ⟨hb, ?_⟩
     | refine ⟨hsome, ?_⟩
     | refine ⟨_, c0, ?_⟩
     | refine ⟨_, c6, ?_⟩
     | refine ⟨_, c7, ?_⟩
     | refine ⟨_, c8, ?_⟩
     | refine ⟨hbd, fun A5 c5 => ?_⟩
     | refine ⟨_, hadd, ?_⟩
     | refine fun (g : Nat) => ?_
     | fail
  ·by_cases hl : y.lane ≤ 2
   ·have hy' : oneTo h k (n + 1) = y := by
     have hh : hardB y = true := by unfold hardB; simp; omega
     rw [hnx]
     unfold hearA
     rw [if_neg (by simp), if_neg (by simp), if_pos rfl, if_pos hh]
    repeat' first
     | (refine lend_rule fun a W rep => agn _ lA lc sA sc hy' a W ?_; exact (rep.res).le (by (simp only [setn, List.nil_append, List.cons_append, leF, leH_nil, leH_cons, leF_nil, lk, scp, scpL, scpO, resF, resH, resO, resV, resVL, nth, Nat.reduceBEq, Nat.reduceLT, decide_true, decide_false, List.length, List.length_cons, List.length_nil, Nat.reduceAdd, Bool.and_self, Bool.and_true, and_true, true_and, numF] <;> try simp)) (by simp only [svX, zB]; (simp only [setn, List.nil_append, List.cons_append, leF, leH_nil, leH_cons, leF_nil, lk, scp, scpL, scpO, resF, resH, resO, resV, resVL, nth, Nat.reduceBEq, Nat.reduceLT, decide_true, decide_false, List.length, List.length_cons, List.length_nil, Nat.reduceAdd, Bool.and_self, Bool.and_true, and_true, true_and, numF] <;> try simp)))
     | (refine Y_go 8 ?_; dsimp only [zq8t, Y_k, zq4u, zq8o, zq6n, Nat.reduceBEq, zq6k, YK, zq9i, normF, zq6l, zq6m, zq86, zq8a, zq89, zq87, zq8c, zq9y, t72n15, T72n15, zq9r, zq9q, zq58, zq06, zq0w, Y_0, zq5a, zq16, zq5c, zq1p, zq1c, List.nil_append, zq1b, zq18, zq5g, List.map, zq6q, zq21, zq7u, zq73, zq0a, dropL, takeL, zq20, splice, setn, zq22, zq25, zq5e, List.length_cons, List.length_nil, Nat.reduceAdd, List.cons_append, zq5d, zq7t, zq8l, zq8m, zq8k, zq1x, nth, zq1t, zq1r, zq8s, t72n14, T72n14, zq50, zq8p, zq04, zq92, zq9b, zq0i, zq9c, Y_gk, zq6d, YR, zq69, zq9e, zq4v, zq6p, zq0b, zq9h, YS, zq6b, zq0c, t72n0, T72n0, zq9s, zq6g, YC, zq9p, t72n13, T72n13, t72n12, T72n12, zq6h, zq8x, t72n2, T72n2, zq14, t72n11, T72n11, t72n10, T72n10, zq1o, zq1k, zq19, zq9f, zq6e, zq6a, zq6c, zq03, zq6o, zq02, zq9g, t72n9, T72n9, t72n6, T72n6, t72n8, T72n8, t72n7, T72n7, zqa1, t72n20, T72n20, zq4w, zq0e, zqa2])
     | (refine ⟨fun q => ?_, fun q => ?_⟩ <;> first | (exfalso; revert q; decide) | (exfalso; simp only [decide_eq_true_eq, decide_eq_false_iff_not] at q <;> omega) | (exfalso; simp only [bne, hv, Bool.not_true, Bool.not_false, Bool.true_eq_false, Bool.false_eq_true] at q; done) | skip)
     | refine ⟨hb, ?_⟩
     | refine ⟨hsome, ?_⟩
     | refine ⟨_, c0, ?_⟩
     | refine ⟨_, c6, ?_⟩
     | refine ⟨_, c7, ?_⟩
     | refine ⟨_, c8, ?_⟩
     | refine ⟨_, hadd, ?_⟩
     | refine fun (g : Nat) => ?_
     | fail
   ·have hy' : oneTo h k (n + 1) = { y with point := n } := by
     have hh : hardB y = false := by unfold hardB; simp; omega
     rw [hnx]
     unfold hearA
     rw [if_neg (by simp), if_neg (by simp), if_pos rfl, if_neg (by rw [hh]; simp)]
    repeat' first
     | (refine lend_rule fun a W rep => agn _ lA lc sA sc hy' a W ?_; exact (rep.res).le (by (simp only [setn, List.nil_append, List.cons_append, leF, leH_nil, leH_cons, leF_nil, lk, scp, scpL, scpO, resF, resH, resO, resV, resVL, nth, Nat.reduceBEq, Nat.reduceLT, decide_true, decide_false, List.length, List.length_cons, List.length_nil, Nat.reduceAdd, Bool.and_self, Bool.and_true, and_true, true_and, numF] <;> try simp)) (by simp only [svX, zB]; (simp only [setn, List.nil_append, List.cons_append, leF, leH_nil, leH_cons, leF_nil, lk, scp, scpL, scpO, resF, resH, resO, resV, resVL, nth, Nat.reduceBEq, Nat.reduceLT, decide_true, decide_false, List.length, List.length_cons, List.length_nil, Nat.reduceAdd, Bool.and_self, Bool.and_true, and_true, true_and, numF] <;> try simp)))
     | (refine Y_go 8 ?_; dsimp only [zq8t, Y_k, zq4u, zq8o, zq6n, Nat.reduceBEq, zq6k, YK, zq9i, normF, zq6l, zq6m, zq86, zq8a, zq89, zq87, zq8c, zq9y, t72n15, T72n15, zq9r, zq9q, zq58, zq06, zq0w, Y_0, zq5a, zq16, zq5c, zq1p, zq1c, List.nil_append, zq1b, zq18, zq5g, List.map, zq6q, zq21, zq7u, zq73, zq0a, dropL, takeL, zq20, splice, setn, zq22, zq25, zq5e, List.length_cons, List.length_nil, Nat.reduceAdd, List.cons_append, zq5d, zq7t, zq8l, zq8m, zq8k, zq1x, nth, zq1t, zq1r, zq8s, t72n14, T72n14, zq50, zq8p, zq04, zq92, zq9b, zq0i, zq9c, Y_gk, zq6d, YR, zq69, zq9e, zq4v, zq6p, zq0b, zq9h, YS, zq6b, zq0c, t72n0, T72n0, zq9s, zq6g, YC, zq9p, t72n13, T72n13, t72n12, T72n12, zq6h, zq8x, t72n2, T72n2, zq14, t72n11, T72n11, t72n10, T72n10, zq1o, zq1k, zq19, zq9f, zq6e, zq6a, zq6c, zq03, zq9g, zq6o, t72n4, T72n4, t72n9, T72n9, zq6f, t72n6, T72n6, t72n8, T72n8, t72n7, T72n7, zqa1, t72n20, T72n20, zq4w, zq0e, zqa2])
     | (refine ⟨fun q => ?_, fun q => ?_⟩ <;> first | (exfalso; revert q; decide) | (exfalso; simp only [decide_eq_true_eq, decide_eq_false_iff_not] at q <;> omega) | (exfalso; simp only [bne, hv, Bool.not_true, Bool.not_false, Bool.true_eq_false, Bool.false_eq_true] at q; done) | skip)
     | refine ⟨hb, ?_⟩
     | refine ⟨hsome, ?_⟩
     | refine ⟨_, c0, ?_⟩
     | refine ⟨_, c6, ?_⟩
     | refine ⟨_, c7, ?_⟩
     | refine ⟨_, c8, ?_⟩
     | refine ⟨_, hadd, ?_⟩
     | refine fun (g : Nat) => ?_
     | fail
  ·by_cases hl : y.lane ≤ 2
   ·have hy' : oneTo h k (n + 1) = { y with to := n, com := true, point := n } := by
     have hh : hardB y = true := by unfold hardB; simp; omega
     rw [hnx]
     unfold hearA
     rw [if_neg (by simp), if_neg (by simp), if_neg (by simp), if_pos rfl, if_pos hh]
    repeat' first
     | (refine lend_rule fun a W rep => agn _ lA lc sA sc hy' a W ?_; exact (rep.res.cellsTo 1 (l' := svX { y with to := n, com := true, point := n }) rfl fun vs h => h).le (by (simp only [setn, List.nil_append, List.cons_append, leF, leH_nil, leH_cons, leF_nil, lk, scp, scpL, scpO, resF, resH, resO, resV, resVL, nth, Nat.reduceBEq, Nat.reduceLT, decide_true, decide_false, List.length, List.length_cons, List.length_nil, Nat.reduceAdd, Bool.and_self, Bool.and_true, and_true, true_and, numF] <;> try simp)) (by simp only [svX, zB]; (simp only [setn, List.nil_append, List.cons_append, leF, leH_nil, leH_cons, leF_nil, lk, scp, scpL, scpO, resF, resH, resO, resV, resVL, nth, Nat.reduceBEq, Nat.reduceLT, decide_true, decide_false, List.length, List.length_cons, List.length_nil, Nat.reduceAdd, Bool.and_self, Bool.and_true, and_true, true_and, numF] <;> try simp)))
     | (refine Y_go 8 ?_; dsimp only [zq8t, Y_k, zq4u, zq8o, zq6n, Nat.reduceBEq, zq6k, YK, zq9i, normF, zq6l, zq6m, zq86, zq8a, zq89, zq87, zq8c, zq9y, t72n15, T72n15, zq9r, zq9q, zq58, zq06, zq0w, Y_0, zq5a, zq16, zq5c, zq1p, zq1c, List.nil_append, zq1b, zq18, zq5g, List.map, zq6q, zq21, zq7u, zq73, zq0a, dropL, takeL, zq20, splice, setn, zq22, zq25, zq5e, List.length_cons, List.length_nil, Nat.reduceAdd, List.cons_append, zq5d, zq7t, zq8l, zq8m, zq8k, zq1x, nth, zq1t, zq1r, zq8s, t72n14, T72n14, zq50, zq8p, zq04, zq92, zq9b, zq0i, zq9c, Y_gk, zq6d, YR, zq69, zq9e, zq4v, zq6p, zq0b, zq9h, YS, zq6b, zq0c, t72n0, T72n0, zq9s, zq6g, YC, zq9p, t72n13, T72n13, t72n12, T72n12, zq6h, zq8x, t72n2, T72n2, zq14, t72n11, T72n11, t72n10, T72n10, zq1o, zq1k, zq19, zq9f, zq6e, zq6a, zq6c, zq03, zq6o, zq02, zq9g, zq6f, t72n4, T72n4, t72n9, T72n9, t72n6, T72n6, t72n5, T72n5, zq7g, t72n8, T72n8, t72n7, T72n7, zqa1, t72n20, T72n20, zq4w, zq0e, zqa2])
     | (refine ⟨fun q => ?_, fun q => ?_⟩ <;> first | (exfalso; revert q; decide) | (exfalso; simp only [decide_eq_true_eq, decide_eq_false_iff_not] at q <;> omega) | (exfalso; simp only [bne, hv, Bool.not_true, Bool.not_false, Bool.true_eq_false, Bool.false_eq_true] at q; done) | skip)
     | refine ⟨hb, ?_⟩
     | refine ⟨hsome, ?_⟩
     | refine ⟨_, c0, ?_⟩
     | refine ⟨_, c6, ?_⟩
     | refine ⟨_, c7, ?_⟩
     | refine ⟨_, c8, ?_⟩
     | refine ⟨_, hadd, ?_⟩
     | refine fun (g : Nat) => ?_
     | fail
   ·have hy' : oneTo h k (n + 1) = { y with to := n, com := true } := by
     have hh : hardB y = false := by unfold hardB; simp; omega
     rw [hnx]
     unfold hearA
     rw [if_neg (by simp), if_neg (by simp), if_neg (by simp), if_pos rfl, if_neg (by rw [hh]; simp)]
    repeat' first
     | (refine lend_rule fun a W rep => agn _ lA lc sA sc hy' a W ?_; exact (rep.res.cellsTo 1 (l' := svX { y with to := n, com := true }) rfl fun vs h => h).le (by (simp only [setn, List.nil_append, List.cons_append, leF, leH_nil, leH_cons, leF_nil, lk, scp, scpL, scpO, resF, resH, resO, resV, resVL, nth, Nat.reduceBEq, Nat.reduceLT, decide_true, decide_false, List.length, List.length_cons, List.length_nil, Nat.reduceAdd, Bool.and_self, Bool.and_true, and_true, true_and, numF] <;> try simp)) (by simp only [svX, zB]; (simp only [setn, List.nil_append, List.cons_append, leF, leH_nil, leH_cons, leF_nil, lk, scp, scpL, scpO, resF, resH, resO, resV, resVL, nth, Nat.reduceBEq, Nat.reduceLT, decide_true, decide_false, List.length, List.length_cons, List.length_nil, Nat.reduceAdd, Bool.and_self, Bool.and_true, and_true, true_and, numF] <;> try simp)))
     | (refine Y_go 8 ?_; dsimp only [zq8t, Y_k, zq4u, zq8o, zq6n, Nat.reduceBEq, zq6k, YK, zq9i, normF, zq6l, zq6m, zq86, zq8a, zq89, zq87, zq8c, zq9y, t72n15, T72n15, zq9r, zq9q, zq58, zq06, zq0w, Y_0, zq5a, zq16, zq5c, zq1p, zq1c, List.nil_append, zq1b, zq18, zq5g, List.map, zq6q, zq21, zq7u, zq73, zq0a, dropL, takeL, zq20, splice, setn, zq22, zq25, zq5e, List.length_cons, List.length_nil, Nat.reduceAdd, List.cons_append, zq5d, zq7t, zq8l, zq8m, zq8k, zq1x, nth, zq1t, zq1r, zq8s, t72n14, T72n14, zq50, zq8p, zq04, zq92, zq9b, zq0i, zq9c, Y_gk, zq6d, YR, zq69, zq9e, zq4v, zq6p, zq0b, zq9h, YS, zq6b, zq0c, t72n0, T72n0, zq9s, zq6g, YC, zq9p, t72n13, T72n13, t72n12, T72n12, zq6h, zq8x, t72n2, T72n2, zq14, t72n11, T72n11, t72n10, T72n10, zq1o, zq1k, zq19, zq9f, zq6e, zq6a, zq6c, zq03, zq9g, zq6o, t72n4, T72n4, t72n9, T72n9, zq6f, t72n6, T72n6, t72n5, T72n5, zq7g, t72n8, T72n8, t72n7, T72n7, zqa1, t72n20, T72n20, zq4w, zq0e, zqa2])
     | (refine ⟨fun q => ?_, fun q => ?_⟩ <;> first | (exfalso; revert q; decide) | (exfalso; simp only [decide_eq_true_eq, decide_eq_false_iff_not] at q <;> omega) | (exfalso; simp only [bne, hv, Bool.not_true, Bool.not_false, Bool.true_eq_false, Bool.false_eq_true] at q; done) | skip)
     | refine ⟨hb, ?_⟩
     | refine ⟨hsome, ?_⟩
     | refine ⟨_, c0, ?_⟩
     | refine ⟨_, c6, ?_⟩
     | refine ⟨_, c7, ?_⟩
     | refine ⟨_, c8, ?_⟩
     | refine ⟨_, hadd, ?_⟩
     | refine fun (g : Nat) => ?_
     | fail
  ·have hy' : oneTo h k (n + 1) = { y with to := n, code := cd } := by
    rw [hnx]
    unfold hearA
    rw [if_neg (by simp), if_neg (by simp), if_neg (by simp), if_neg (by simp), if_pos rfl]
   repeat' first
    | (refine lend_rule fun a W rep => agn _ lA lc sA sc hy' a W ?_; exact (rep.res).le (by (simp only [setn, List.nil_append, List.cons_append, leF, leH_nil, leH_cons, leF_nil, lk, scp, scpL, scpO, resF, resH, resO, resV, resVL, nth, Nat.reduceBEq, Nat.reduceLT, decide_true, decide_false, List.length, List.length_cons, List.length_nil, Nat.reduceAdd, Bool.and_self, Bool.and_true, and_true, true_and, numF] <;> try simp)) (by simp only [svX, zB]; (simp only [setn, List.nil_append, List.cons_append, leF, leH_nil, leH_cons, leF_nil, lk, scp, scpL, scpO, resF, resH, resO, resV, resVL, nth, Nat.reduceBEq, Nat.reduceLT, decide_true, decide_false, List.length, List.length_cons, List.length_nil, Nat.reduceAdd, Bool.and_self, Bool.and_true, and_true, true_and, numF] <;> try simp); exact hcom))
    | (refine Y_go 8 ?_; dsimp only [zq8t, Y_k, zq4u, zq8o, zq6n, Nat.reduceBEq, zq6k, YK, zq9i, normF, zq6l, zq6m, zq86, zq8a, zq89, zq87, zq8c, zq9y, t72n15, T72n15, zq9r, zq9q, zq58, zq06, zq0w, Y_0, zq5a, zq16, zq5c, zq1p, zq1c, List.nil_append, zq1b, zq18, zq5g, List.map, zq6q, zq21, zq7u, zq73, zq0a, dropL, takeL, zq20, splice, setn, zq22, zq25, zq5e, List.length_cons, List.length_nil, Nat.reduceAdd, List.cons_append, zq5d, zq7t, zq8l, zq8m, zq8k, zq1x, nth, zq1t, zq1r, zq8s, t72n14, T72n14, zq50, zq8p, zq04, zq92, zq9b, zq0i, zq9c, Y_gk, zq6d, YR, zq69, zq9e, zq4v, zq6p, zq0b, zq9h, YS, zq6b, zq0c, t72n0, T72n0, zq9s, zq6g, YC, zq9p, t72n13, T72n13, t72n12, T72n12, zq6h, zq8x, t72n2, T72n2, zq14, t72n11, T72n11, t72n10, T72n10, zq1o, zq1k, zq19, zq9f, zq6e, zq6a, zq6c, zq03, zq6o, zq02, zq9g, t72n4, T72n4, t72n9, T72n9, t72n6, T72n6, t72n8, T72n8, t72n5, T72n5, zq7g, t72n7, T72n7, zqa1, t72n20, T72n20, zq4w, zq0e])
    | (refine ⟨fun q => ?_, fun q => ?_⟩ <;> first | (exfalso; revert q; decide) | (exfalso; simp only [decide_eq_true_eq, decide_eq_false_iff_not] at q <;> omega) | (exfalso; simp only [bne, hv, Bool.not_true, Bool.not_false, Bool.true_eq_false, Bool.false_eq_true] at q; done) | skip)
    | refine ⟨hb, ?_⟩
    | refine ⟨hsome, ?_⟩
    | refine ⟨_, c0, ?_⟩
    | refine ⟨_, c6, ?_⟩
    | refine ⟨_, c7, ?_⟩
    | refine ⟨_, c8, ?_⟩
    | refine ⟨_, hadd, ?_⟩
    | refine fun (g : Nat) => ?_
    | fail
end Go.Proofs.Ytbkpiljencaoeaa
