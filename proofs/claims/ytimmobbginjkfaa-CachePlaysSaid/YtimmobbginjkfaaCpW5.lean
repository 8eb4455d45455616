/- CachePlays: the document's Drop and Fill. -/
import Derived.Test.YtimmobbginjkfaaCpW4
import Derived.Test.YtimmobbginjkfaaCaW7
import Derived.Test.YtimmobbginjkfaaCaInv
import Derived.Test.YtimmobbginjkfaaCaCodeR
set_option linter.unusedSimpArgs false
set_option linter.unusedVariables false
set_option linter.unnecessarySimpa false
namespace Go.Proofs.Ytimmobbginjkfaa
open Go Go.Sx Go.Ca
set_option maxRecDepth 100000
def dropD (D : Dc) (line : Int) : Dc := match atL D.es line with
 | some i => dropI D i
 | none => D
def dropDV (D : Dc) (line : Int) : Value := match atL D.es line with
 | some i => .tuple #[.agg (enV (D.es.getD i zE)).toArray, .int .i64 0]
 | none => .tuple #[.agg (enV zE).toArray, .int .i64 20]
theorem drop36 {E0 : Env} {W : World} (gw : Nat) (A : Option Addr) (cc : Nat) (D : Dc) (hl : D.es.length ≤ 1000) (line : Int) (hW : HeapOk E0 (dcS 0 gw 0 A cc D) W) :
  CallsV Try.prog 36 [.pointer (some ⟨gw, 0, none⟩), .int .i64 line] W fun v W' => v = dropDV D line ∧ ∃ v' A' cc', HeapOk E0 (dcS 0 gw v' A' cc' (dropD D line)) W' := by
 obtain ⟨b0, N, st, nt0, mk0⟩ := E0
 refine calls_lent (keep := K36) (nt := 25) (svs := [.ptr 0 0, .val (.int .i64 line)]) Try.func36 x36 n36 (by simp) hW (by simp [IsL, Is, dcS, blk, nth, SO.blk]) fun R hR => ?_
 have fin : ∀ (v : Value) (D1 : Dc) (W : World) (r : List SO) (vv : Nat) (A' : Option Addr) (cc' : Nat), v = dropDV D line → D1 = dropD D line → HeapOk ⟨b0, N, st, 25, []⟩ (dcS 0 gw vv A' cc' D1 ++ r) W → R v W := fun v D1 W r vv A' cc' hv hc hW => hR _ _ ⟨hv, vv, A', cc', by rw [← hc]; exact HeapOk.env (E := ⟨b0, N, st, 25, []⟩) (E' := ⟨b0, N, st, nt0, mk0⟩) rfl rfl rfl (hW.pre (dc_pre gw A' cc' D1 vv))⟩
 (refine Y_go 600 ?_; dsimp only [X36, numF, Nat.reduceAdd, dcS, zq9r, zq9q, Y_k, zq5e, List.length_cons, List.length_nil, List.map, zq6q, zq6p, List.cons_append, List.nil_append, YK, zq8t, zq4u, zq8p, zq9i, normF, zq6n, Nat.reduceBEq, zq6l, zq6k, zq6m, zq86, zq87, zq8c, zq9y, t36n5, T36n5, zq8o, zq9j])
 intro gr
 refine call_dat gw A cc D line hl [_] rfl rfl (fun i hi hat he => ?_) (fun hno => ?_)
 ·dsimp only [zq8t, dcS, Nat.reduceAdd, List.cons_append, List.nil_append]
  (refine Y_go 600 ?_; dsimp only [Y_k, zq4u, zq8o, zq6n, Nat.reduceBEq, zq6k, YK, zq8t, zq9i, normF, zq6l, zq6m, zq86, zq87, zq8c, zq9y, t36n4, T36n4, zq9r, zq9q, zq50, zq8p, zq6q, zq04, zq92, zq9b, zq0i, zq9e, zq9s, zq6h, zq8x, YC, t36n0, T36n0, zq5g, List.map, zq6p, zq22, zq25, zq5d, zq7t, List.length_cons, List.length_nil, Nat.reduceAdd, zq8l, zq73, zq8m, zq7i, zq8k, zq0a, zq1x, nth, zq1t, dropL, takeL, zq1r, splice, setn, zq8s, zq89, zq9x, zq9p, t36n3, T36n3, zq5i, zq29, zq5a, zq14, zq5c, zq1o, zq1k, zq19, zq18, zq58, zq06, zq0y, zq09, zq08, zq0v, zq1q, zq1n, zq1c, List.nil_append, List.cons_append, zq1d, zq1b, zq17, zq5e, zq7g, zq8a, t36n2, T36n2, zq9j])
  refine ⟨fun h => absurd (of_decide_eq_true h) (by omega), fun _ => ⟨⟨by omega, by omega⟩, _, esV_atm 0 hi (by omega) rfl, _, esV_atm 1 hi (by omega) rfl, _, esV_atm 2 hi (by omega) rfl, _, esV_atm 3 hi (by omega) rfl, _, esV_atm 4 hi (by omega) rfl, _, esV_atm 5 hi (by omega) rfl, _, esV_atm 6 hi (by omega) rfl, _, esV_atm 7 hi (by omega) rfl, _, esV_atm 8 hi (by omega) rfl, _, esV_atm 9 hi (by omega) rfl, _, esV_atm 10 hi (by omega) rfl, _, esV_atm 11 hi (by omega) rfl, _, esV_atm 12 hi (by omega) rfl, _, esV_atm 13 hi (by omega) rfl, _, esV_atm 14 hi (by omega) rfl, _, esV_atm 15 hi (by omega) rfl, _, esV_atm 16 hi (by omega) rfl, _, esV_atm 17 hi (by omega) rfl, _, esV_atm 18 hi (by omega) rfl, _, esV_atm 19 hi (by omega) rfl, _, esV_atm 20 hi (by omega) rfl, ?_⟩⟩
  intro g2
  refine call_dc [] [_, _] gw 0 1 A cc D (dropI D i) (.tuple #[]) (.tup []) rfl (vs := [.pointer (some ⟨gw, 0, none⟩), .int .i64 i]) rfl (by decide) (fun W hW hh => without47 gw A cc D hl i hi hh) (fun H => by simp [Is, IsL]) fun A' cc' => ?_
  dsimp only [zq8t, List.length_nil, dcS, Nat.reduceAdd, List.cons_append, List.nil_append]
  (refine Y_go 600 ?_; dsimp only [zq9i, normF, zq6n, Nat.reduceBEq, zq6l, zq6k, zq8a, zq8c, zq87, zq9y, t36n1, T36n1, zq9r, zq9q, Y_k, zq5c, zq8o, zq1o, nth, zq1k, List.length_cons, List.length_nil, Nat.reduceAdd, dropL, takeL, zq19, zq17, YK, zq8t, zq5d, zq7t, zq8l, zq73, zq8m, zq7g, zq8k, zq0a, zq1x, zq1t, zq1r, splice, setn, zq8s, zq4u, zq8p, zq6q, zq9x])
  exact ret_rv (vs := [.agg (enV D.es[i]).toArray, .int .i64 0]) r36 rfl rfl fun W hW => fin _ (dropI D i) W [_, _] 1 A' cc' (by unfold dropDV; rw [hat]; simp only [getD_is hi]; rfl) (by unfold dropD; rw [hat]) hW
 ·dsimp only [zq8t, dcS, Nat.reduceAdd, List.cons_append, List.nil_append]
  (refine Y_go 600 ?_; dsimp only [Y_k, zq4u, zq8o, zq6n, Nat.reduceBEq, zq6k, YK, zq8t, zq9i, normF, zq6l, zq6m, zq86, zq87, zq8c, zq9y, t36n4, T36n4, zq9r, zq9q, zq50, zq8p, zq6q, zq04, zq92, zq9b, zq0i, zq9e, zq9s, zq6h, zq8x, YC, t36n0, T36n0, zq5g, List.map, zq6p, zq22, zq25, zq5d, zq7t, List.length_cons, List.length_nil, Nat.reduceAdd, zq8l, zq73, zq8m, zq7i, zq8k, zq0a, zq1x, nth, zq1t, dropL, takeL, zq1r, splice, setn, zq8s, zq89, zq9x, zq9p, t36n3, T36n3, zq5i, zq29, zq5a, zq14, zq5c, zq1o, zq1k, zq19, zq18, zq58, zq06, zq0y, zq09, zq08, zq0v, Int.reduceToNat, Nat.reduceMul, zq1q, zq1n, zq1c, List.nil_append, List.cons_append, zq1d, zq1b, zq17, zq5e, zq7g, zq8a, t36n2, T36n2, zq9j])
  refine ⟨fun _ => ?_, fun h => absurd h (by decide)⟩
  exact ret_rv (vs := [.agg (enV zE).toArray, .int .i64 20]) r36 rfl rfl fun W hW => fin _ D W [_] 0 A cc (by unfold dropDV; rw [hno]; rfl) (by unfold dropD; rw [hno]) hW
def stepF (D : Dc) (line : Int) (q : Nat × Option Nat) (i : Nat) : Nat × Option Nat :=
 if (D.es.getD i zE).line % D.sets = line % D.sets then (q.1 + 1, if (D.es.getD i zE).rd || (D.es.getD i zE).wr then q.2 else match q.2 with
  | none => some i
  | some k => if (D.es.getD i zE).used < (D.es.getD k zE).used then some i else some k) else q
def scanF (D : Dc) (line : Int) : Nat → Nat × Option Nat
 | 0 => (0, none)
 | i + 1 => stepF D line (scanF D line i) i
def goI : Option Nat → Int
 | none => -1
 | some k => k
def fillD (D : Dc) (line st : Int) (d : Nat → Int) : Dc := if argB line st then D else match atL D.es line with
 | some _ => D
 | none => if ((scanF D line D.es.length).1 : Int) = D.ways then (match (scanF D line D.es.length).2 with
   | none => D
   | some k => putI { dropI D k with uses := D.uses + 1 } (fillE line st d (D.uses + 1)))
  else putI { D with uses := D.uses + 1 } (fillE line st d (D.uses + 1))
def fillDA (D : Dc) (line st : Int) : En × Bool × Int := if argB line st then (zE, false, 2) else match atL D.es line with
 | some _ => (zE, false, 21)
 | none => if ((scanF D line D.es.length).1 : Int) = D.ways then (match (scanF D line D.es.length).2 with
   | none => (zE, false, 22)
   | some k => (D.es.getD k zE, true, 0))
  else (zE, false, 0)
def fillDV (D : Dc) (line st : Int) : Value := .tuple #[.agg (enV (fillDA D line st).1).toArray, .bool (fillDA D line st).2.1, .int .i64 (fillDA D line st).2.2]
theorem scan_lt (D : Dc) (line : Int) : ∀ i k, (scanF D line i).2 = some k → k < i
 | 0, k, h => by simp [scanF] at h
 | i + 1, k, h => by
  simp only [scanF, stepF] at h
  have ih := scan_lt D line i
  generalize scanF D line i = q at h ih
  split at h
  ·simp only at h
   split at h
   ·have := ih k h; omega
   ·split at h
    ·injection h with h; omega
    ·rename_i m hm
     split at h
     ·injection h with h; omega
     ·injection h with h; subst h; have := ih m hm; omega
  ·have := ih k h; omega
theorem scan_le (D : Dc) (line : Int) : ∀ i, (scanF D line i).1 ≤ i
 | 0 => Nat.le_refl _
 | i + 1 => by
  have ih := scan_le D line i
  simp only [scanF, stepF]
  split
  ·simp only; omega
  ·omega
theorem fill30 {E0 : Env} {W : World} (gw : Nat) (A : Option Addr) (cc : Nat) (D : Dc) (hl : D.es.length ≤ 900) (hu : 0 ≤ D.uses ∧ D.uses ≤ 1000000) (hs : 0 < D.sets) (hnn : ∀ e ∈ D.es, 0 ≤ e.line) (line state : Int) (d : Nat → Int) (hW : HeapOk E0 (dcS 0 gw 0 A cc D) W) :
  CallsV Try.prog 30 [.pointer (some ⟨gw, 0, none⟩), .int .i64 line, .int .i64 state, .agg (dV d).toArray] W fun v W' => v = fillDV D line state ∧ ∃ v' A' cc', HeapOk E0 (dcS 0 gw v' A' cc' (fillD D line state d)) W' := by
 obtain ⟨b0, N, st, nt0, mk0⟩ := E0
 refine calls_lent (keep := K30) (nt := 147) (svs := [.ptr 0 0, .val (.int .i64 line), .val (.int .i64 state), .agg [.val (.int .u64 (d 0)), .val (.int .u64 (d 1)), .val (.int .u64 (d 2)), .val (.int .u64 (d 3)), .val (.int .u64 (d 4)), .val (.int .u64 (d 5)), .val (.int .u64 (d 6)), .val (.int .u64 (d 7))]]) Try.func30 x30 n30 (by simp) hW (by simp [IsL, Is, dcS, blk, nth, SO.blk, dV]) fun R hR => ?_
 have fin : ∀ (v : Value) (D1 : Dc) (W : World) (r : List SO) (vv : Nat) (A' : Option Addr) (cc' : Nat), v = fillDV D line state → D1 = fillD D line state d → HeapOk ⟨b0, N, st, 147, []⟩ (dcS 0 gw vv A' cc' D1 ++ r) W → R v W := fun v D1 W r vv A' cc' hv hc hW => hR _ _ ⟨hv, vv, A', cc', by rw [← hc]; exact HeapOk.env (E := ⟨b0, N, st, 147, []⟩) (E' := ⟨b0, N, st, nt0, mk0⟩) rfl rfl rfl (hW.pre (dc_pre gw A' cc' D1 vv))⟩
 obtain ⟨hu0, hu1⟩ := hu
 (refine Y_go 600 ?_; dsimp only [X30, numF, Nat.reduceAdd, dcS, zq9r, zq9q, Y_k, zq5f, zq8o, zq6n, Nat.reduceBEq, zq6l, zq6k, zq7t, List.length_cons, List.length_nil, zq8l, zq73, zq8m, zq8k, zq0a, zq1z, List.cons_append, List.nil_append, YK, zq8t, zq5e, List.map, zq6q, zq6p, zq4u, zq8p, zq9i, normF, zq6m, zq86, zq87, zq8a, zq8c, zq88, zq9y, t30n22, T30n22, zq50, zq04, zq92, zq9b, zq0i, zq9e, Y_gk, zq6e, YS, zq6a, zq02, zq4v, zq6o, zq0b, zq89, zq9s, zq6f, YC, t30n0, T30n0, zq5g, zq22, zq25, zq5d, zq7i, zq1x, nth, zq1t, dropL, takeL, zq1r, splice, setn, zq8s, zq9x, YR, zq6c, zq9d, zq6d, zq69, zq0c, zq6h, zq8x, zq9p, t30n21, T30n21, zq9j, zq6b, zq6g])
 intro gb gr
 have main : argB line state = false → G (cxOf Try.prog Try.f30 K30 T30 R) ⟨b0, N, st, 147, []⟩ [.ops [{ dst := some 29, guard := none, i := .call 46 [.tmp 27, .tmp 28] }, { dst := some 30, guard := none, i := .k (.cmp .geq .i64 (.tmp 29) (.const (.int .i64 0))) }], .code (.cond (.tmp 30) (.ref 1) .skip), .code (.ref 20)]
   { F := [(28, .val (.int .i64 line)), (27, .ptr 0 0), (0, .ptr 0 0), (1, .val (.int .i64 line)), (2, .val (.int .i64 state)), (7, .ptr 2 0), (8, .ptr 3 0), (9, .bf), (10, .val (.int .i64 0))], H := dcS 0 gw 0 A cc D ++ [.cells gb 42 [.val (.int .u64 (d 0)), .val (.int .u64 (d 1)), .val (.int .u64 (d 2)), .val (.int .u64 (d 3)), .val (.int .u64 (d 4)), .val (.int .u64 (d 5)), .val (.int .u64 (d 6)), .val (.int .u64 (d 7))], .cells gr 44 [.val (.int .i64 0), .val (.int .i64 0), .bf, .bf, .val (.int .u64 0), .val (.int .u64 0), .val (.int .u64 0), .val (.int .u64 0), .val (.int .u64 0), .val (.int .u64 0), .val (.int .u64 0), .val (.int .u64 0), .val (.int .u64 0), .val (.int .u64 0), .val (.int .u64 0), .val (.int .u64 0), .val (.int .u64 0), .val (.int .u64 0), .val (.int .u64 0), .val (.int .u64 0), .val (.int .i64 0)]] } := by
  intro ha
  obtain ⟨hln, hst⟩ := arg_no (line := line) (st := state) (by rw [ha]; simp)
  refine call_dat gw A cc D line (by omega) [_, _] rfl rfl (fun i hi hat he => ?_) (fun hno => ?_)
  ·dsimp only [zq8t, dcS, Nat.reduceAdd, List.cons_append, List.nil_append]
   (refine Y_go 600 ?_; dsimp only [Y_k, zq50, zq8o, zq6n, Nat.reduceBEq, zq6k, zq8p, zq6q, zq04, zq92, zq9b, zq0i, zq9h, YK, zq8t, zq9i, normF, zq6l, zq6m, zq86, zq87, zq8a, zq8c, zq9s, zq6h, zq8x, YC, zq9y, t30n1, T30n1, zq9r, zq9q, zq5g, List.map, zq6p, zq22, zq25, zq5d, zq7t, List.length_cons, List.length_nil, Nat.reduceAdd, zq8l, zq73, zq8m, zq7i, zq8k, zq0a, zq1x, nth, zq1t, dropL, takeL, zq1r, splice, setn, zq8s, zq4u, zq89, zq9x, zq9p, t30n20, T30n20, t30n19, T30n19, t30n18, T30n18, zq9t, zq9v])
   refine ⟨fun _ => ?_, fun h => absurd (of_decide_eq_false h) (by omega)⟩
   have ha' : ¬ argB line state = true := by rw [ha]; simp
   exact ret_rv (vs := [.agg (enV zE).toArray, .bool false, .int .i64 21]) r30 rfl rfl fun W hW => fin _ D W [_, _] 0 A cc (by unfold fillDV fillDA; rw [if_neg ha', hat]; rfl) (by unfold fillD; rw [if_neg ha', hat]) hW
  ·dsimp only [zq8t, dcS, Nat.reduceAdd, List.cons_append, List.nil_append]
   (refine Y_go 600 ?_; dsimp only [Y_k, zq50, zq8o, zq6n, Nat.reduceBEq, zq6k, zq8p, zq6q, zq04, zq92, zq9b, zq0i, zq9h, YK, zq8t, zq9i, normF, zq6l, zq6m, zq86, zq87, zq8a, zq8c, zq9s, zq6h, zq8x, YC, zq9y, t30n1, T30n1, zq9r, zq9q, zq5g, List.map, zq6p, zq22, zq25, zq5d, zq7t, List.length_cons, List.length_nil, Nat.reduceAdd, zq8l, zq73, zq8m, zq7i, zq8k, zq0a, zq1x, nth, zq1t, dropL, takeL, zq1r, splice, setn, zq8s, zq4u, zq89, zq9x, zq9p, t30n20, T30n20, t30n19, T30n19, t30n18, T30n18, zq9t, zq9v])
   refine ⟨fun h => absurd h (by decide), fun _ => ?_⟩
   refine loop_go (α := Nat) (fun i => i ≤ D.es.length) (fun _ => ⟨b0, N, st, 147, []⟩)
    (fun i => { F := [(0, .ptr 0 0), (1, .val (.int .i64 line)), (2, .val (.int .i64 state)), (7, .ptr 2 0), (8, .ptr 3 0), (9, .bf), (10, .val (.int .i64 0)), (11, .val (.int .i64 (scanF D line i).1)), (12, .val (.int .i64 (goI (scanF D line i).2))), (13, .val (.int .i64 i))], H := dcS 0 gw 0 A cc D ++ [.cells gb 42 [.val (.int .u64 (d 0)), .val (.int .u64 (d 1)), .val (.int .u64 (d 2)), .val (.int .u64 (d 3)), .val (.int .u64 (d 4)), .val (.int .u64 (d 5)), .val (.int .u64 (d 6)), .val (.int .u64 (d 7))], .cells gr 44 [.val (.int .i64 0), .val (.int .i64 0), .bf, .bf, .val (.int .u64 0), .val (.int .u64 0), .val (.int .u64 0), .val (.int .u64 0), .val (.int .u64 0), .val (.int .u64 0), .val (.int .u64 0), .val (.int .u64 0), .val (.int .u64 0), .val (.int .u64 0), .val (.int .u64 0), .val (.int .u64 0), .val (.int .u64 0), .val (.int .u64 0), .val (.int .u64 0), .val (.int .u64 0), .val (.int .i64 0)]] }) (fun i => D.es.length - i) (fun _ => rfl) ?start ?round
   case start =>
    intro a W rep
    exact ⟨0, Nat.zero_le _, rep.le (by simp only [dcS, scanF, goI]; (simp only [setn, List.nil_append, List.cons_append, leF, leH_nil, leH_cons, leF_nil, lk, scp, scpL, scpO, resF, resH, resO, resV, resVL, nth, Nat.reduceBEq, Nat.reduceLT, decide_true, decide_false, List.length, List.length_cons, List.length_nil, Nat.reduceAdd, Bool.and_self, Bool.and_true, and_true, true_and, numF] <;> try simp)) (by simp only [dcS]; (simp only [setn, List.nil_append, List.cons_append, leF, leH_nil, leH_cons, leF_nil, lk, scp, scpL, scpO, resF, resH, resO, resV, resVL, nth, Nat.reduceBEq, Nat.reduceLT, decide_true, decide_false, List.length, List.length_cons, List.length_nil, Nat.reduceAdd, Bool.and_self, Bool.and_true, and_true, true_and, numF] <;> try simp))⟩
   case round =>
    rintro i hi I again
    simp only [dcS]
    (refine Y_go 600 ?_; dsimp only [Nat.reduceAdd, List.cons_append, List.nil_append, zq9y, t30n7, T30n7, zq9r, zq9q, Y_k, zq4u, zq8o, zq6n, Nat.reduceBEq, zq6l, zq6k, YK, zq8t, zq5i, zq29, zq5a, zq14, zq5c, zq1o, nth, zq1k, List.length_cons, List.length_nil, dropL, takeL, zq19, zq18, zq55, zq0t, zq09, zq08, zq0q, zq50, zq04, zq92, zq9b, zq0i, zq9e, zq9i, normF, zq6m, zq86, zq87, zq8a, zq8c, zq9s, zq6h, zq8x, YC, zq9p, t30n6, T30n6, zq9t, zq58, zq06, zq0y, zq0v, zq15, Nat.add_zero, zq13, zq1q, zq1n, zq1c, zq1b, zq4x, zq0f, zq9d, zq89, zq9u, popTo, zq6i, YP, t30n5, T30n5, zq4w, zq8p, zq6q, zq0e, zqa2, t30n4, T30n4, t30n3, T30n3, zq1d, zq53, zq0o, Y_gk, zq6d, YR, zq69, zq4v, zq6p, zq0b, zq6e, YS, zq6a, zq6o, t30n2, T30n2, zq6f, zqa1, zq6c, zq0c, zq6b, zq03, zq6g, t30n17, T30n17, zq5g, List.map, zq22, zq25, zq5e, zq5d, zq7t, zq8l, zq73, zq8m, zq7i, zq8k, zq0a, zq1x, zq1t, zq1r, splice, setn, zq8s, t30n16, T30n16, zq9c, t30n15, T30n15, t30n11, T30n11, t30n8, T30n8, zq17, zq9x, t30n10, T30n10, zq7g, t30n9, T30n9, zq9j, t30n14, T30n14, zq7u, t30n13, T30n13, zq21, zq20])
    have hsl := scan_lt D line i
    have hsm := scan_le D line i
    refine ⟨fun hlt => ?_, fun hge => ?_⟩
    rotate_left
    ·have hie : i = D.es.length := by have := of_decide_eq_false hge; omega
     subst hie
     clear again I
     have ha' : ¬ argB line state = true := by rw [ha]; simp
     have hfv : fillDV D line state = .tuple #[.agg (enV (fillDA D line state).1).toArray, .bool (fillDA D line state).2.1, .int .i64 (fillDA D line state).2.2] := rfl
     have hfa : fillDA D line state = (if ((scanF D line D.es.length).1 : Int) = D.ways then (match (scanF D line D.es.length).2 with
       | none => (zE, false, 22)
       | some k => (D.es.getD k zE, true, 0))
      else (zE, false, 0) : En × Bool × Int) := by unfold fillDA; rw [if_neg ha', hno]
     have hfd : fillD D line state d = if ((scanF D line D.es.length).1 : Int) = D.ways then (match (scanF D line D.es.length).2 with
       | none => D
       | some k => putI { dropI D k with uses := D.uses + 1 } (fillE line state d (D.uses + 1)))
      else putI { D with uses := D.uses + 1 } (fillE line state d (D.uses + 1)) := by unfold fillD; rw [if_neg ha', hno]
     generalize scanF D line D.es.length = q at hsl hsm hfa hfd ⊢
     obtain ⟨m, o⟩ := q
     simp only at hsl hsm hfa hfd ⊢
     intro g
     refine ⟨fun hf => ?_, fun hf => ?_⟩
     ·have hf : (m : Int) = D.ways := by simpa using hf
      rw [if_pos hf] at hfa hfd
      cases o with
      | none =>
       simp only [goI]
       refine ⟨fun _ => ?_, fun h => absurd h (by simp)⟩
       exact ret_rv (vs := [.agg (enV zE).toArray, .bool false, .int .i64 22]) r30 rfl rfl fun W hW => fin _ D W [_, _, _] 0 A cc (by rw [hfv, hfa]; rfl) hfd.symm hW
      | some k =>
       have hk : k < D.es.length := hsl k rfl
       simp only [goI]
       refine ⟨fun h => absurd (of_decide_eq_true h) (by omega), fun _ => ⟨⟨by omega, by omega⟩, _, esV_atm 0 hk (by omega) rfl, _, esV_atm 1 hk (by omega) rfl, _, esV_atm 2 hk (by omega) rfl, _, esV_atm 3 hk (by omega) rfl, _, esV_atm 4 hk (by omega) rfl, _, esV_atm 5 hk (by omega) rfl, _, esV_atm 6 hk (by omega) rfl, _, esV_atm 7 hk (by omega) rfl, _, esV_atm 8 hk (by omega) rfl, _, esV_atm 9 hk (by omega) rfl, _, esV_atm 10 hk (by omega) rfl, _, esV_atm 11 hk (by omega) rfl, _, esV_atm 12 hk (by omega) rfl, _, esV_atm 13 hk (by omega) rfl, _, esV_atm 14 hk (by omega) rfl, _, esV_atm 15 hk (by omega) rfl, _, esV_atm 16 hk (by omega) rfl, _, esV_atm 17 hk (by omega) rfl, _, esV_atm 18 hk (by omega) rfl, _, esV_atm 19 hk (by omega) rfl, _, esV_atm 20 hk (by omega) rfl, ?_⟩⟩
       refine call_dc [] [_, _, _] gw 0 1 A cc D (dropI D k) (.tuple #[]) (.tup []) rfl (vs := [.pointer (some ⟨gw, 0, none⟩), .int .i64 k]) rfl (by decide) (fun W hW hh => without47 gw A cc D (by omega) k hk hh) (fun H => by simp [Is, IsL]) fun A1 c1 => ?_
       have hdl : (dropI D k).es.length ≤ 1000 := by simp only [dropI, List.length_append, List.length_take, List.length_drop]; omega
       dsimp only [zq8t, List.length_nil, dcS, Nat.reduceAdd, List.cons_append, List.nil_append]
       (refine Y_go 600 ?_; dsimp only [zq9i, normF, zq6n, Nat.reduceBEq, zq6l, zq6k, zq6m, zq8a, zq89, zq86, zq87, zq8c, zq9y, t30n14, T30n14, zq9r, zq9q, Y_k, zq4u, zq8o, YK, zq8t, zq5i, zq29, zq5a, zq14, Nat.reduceAdd, zq5c, zq1o, nth, zq1k, List.length_cons, List.length_nil, dropL, takeL, zq19, zq18, zq4w, zq8p, zq6q, zq04, zq92, zq9b, zq0e, zq5d, zq7u, zq73, zq0a, zq1x, zq1t, zq1r, splice, setn, zq8s, t30n13, T30n13, zq17, zq5g, List.map, zq6p, zq21, zq20, zq7t, zq8l, zq8m, zq8k, zq22, zq25, zq9j])
       refine ⟨D.uses + 1, ArOk.to rfl (by omega) (by omega), ?_⟩
       refine call_dc [] [_, _, _] gw 1 2 A1 c1 { dropI D k with uses := D.uses + 1 } (putI { dropI D k with uses := D.uses + 1 } (fillE line state d (D.uses + 1))) (.tuple #[]) (.tup []) rfl (vs := [.pointer (some ⟨gw, 0, none⟩), .agg (enV (fillE line state d (D.uses + 1))).toArray]) rfl (by decide) (fun W hW hh => put48 gw A1 c1 { dropI D k with uses := D.uses + 1 } hdl (fillE line state d (D.uses + 1)) hh) (fun H => by simp [Is, IsL]) fun A2 c2 => ?_
       dsimp only [zq8t, List.length_nil, dcS, Nat.reduceAdd, List.cons_append, List.nil_append]
       (refine Y_go 600 ?_; dsimp only [zq9i, normF, zq6n, Nat.reduceBEq, zq6l, zq6k, zq6m, zq8a, zq89, zq86, zq87, zq8c, zq9y, t30n12, T30n12, zq9r, zq9q, Y_k, zq5c, zq8o, zq1o, nth, zq1k, List.length_cons, List.length_nil, Nat.reduceAdd, dropL, takeL, zq19, zq17, YK, zq8t, zq4u, zq5d, zq7t, zq8l, zq73, zq8m, zq7g, zq8k, zq0a, zq1x, zq1t, zq1r, splice, setn, zq8s, zq8p, zq6q, zq9x])
       exact ret_rv (vs := [.agg (enV D.es[k]).toArray, .bool ((m : Int) == D.ways), .int .i64 0]) r30 rfl rfl fun W hW => fin _ _ W [_, _, _] 2 A2 c2 (by rw [hfv, hfa, hf]; simp only [getD_is hk, beq_self_eq_true]; rfl) hfd.symm hW
     ·have hf : ¬ (m : Int) = D.ways := by simpa using hf
      rw [if_neg hf] at hfa hfd
      refine ⟨D.uses + 1, ArOk.to rfl (by omega) (by omega), ?_⟩
      refine call_dc [] [_, _, _] gw 0 1 A cc { D with uses := D.uses + 1 } (putI { D with uses := D.uses + 1 } (fillE line state d (D.uses + 1))) (.tuple #[]) (.tup []) rfl (vs := [.pointer (some ⟨gw, 0, none⟩), .agg (enV (fillE line state d (D.uses + 1))).toArray]) rfl (by decide) (fun W hW hh => put48 gw A cc { D with uses := D.uses + 1 } (by show D.es.length ≤ 1000; omega) (fillE line state d (D.uses + 1)) hh) (fun H => by simp [Is, IsL]) fun A2 c2 => ?_
      dsimp only [zq8t, List.length_nil, dcS, Nat.reduceAdd, List.cons_append, List.nil_append]
      (refine Y_go 600 ?_; dsimp only [zq9i, normF, zq6n, Nat.reduceBEq, zq6l, zq6k, zq6m, zq86, zq8a, zq87, zq8c, zq9y, t30n12, T30n12, zq9r, zq9q, Y_k, zq5c, zq8o, zq1o, nth, zq1k, List.length_cons, List.length_nil, Nat.reduceAdd, dropL, takeL, zq19, zq17, YK, zq8t, zq4u, zq5d, zq7t, zq8l, zq73, zq8m, zq7i, zq8k, zq0a, zq1x, zq1t, zq1r, splice, setn, zq8s, zq8p, zq6q, zq9x])
      exact ret_rv (vs := [.agg (enV zE).toArray, .bool ((m : Int) == D.ways), .int .i64 0]) r30 rfl rfl fun W hW => fin _ _ W [_, _, _] 1 A2 c2 (by rw [hfv, hfa, beq_false_of_ne hf]; rfl) hfd.symm hW
    have hlt : i < D.es.length := by have := of_decide_eq_true hlt; omega
    have hsn : scanF D line (i + 1) = stepF D line (scanF D line i) i := rfl
    have hgo : ∀ (m : Nat) o, scanF D line (i + 1) = (m, o) → ∀ (a : Act) (W : World), Rep ⟨b0, N, st, 147, []⟩ { F := [(0, .ptr 0 0), (1, .val (.int .i64 line)), (2, .val (.int .i64 state)), (7, .ptr 2 0), (8, .ptr 3 0), (9, .bf), (10, .val (.int .i64 0)), (11, .val (.int .i64 m)), (12, .val (.int .i64 (goI o))), (13, .val (.int .i64 ((i + 1 : Nat) : Int)))], H := dcS 0 gw 0 A cc D ++ [.cells gb 42 [.val (.int .u64 (d 0)), .val (.int .u64 (d 1)), .val (.int .u64 (d 2)), .val (.int .u64 (d 3)), .val (.int .u64 (d 4)), .val (.int .u64 (d 5)), .val (.int .u64 (d 6)), .val (.int .u64 (d 7))], .cells gr 44 [.val (.int .i64 0), .val (.int .i64 0), .bf, .bf, .val (.int .u64 0), .val (.int .u64 0), .val (.int .u64 0), .val (.int .u64 0), .val (.int .u64 0), .val (.int .u64 0), .val (.int .u64 0), .val (.int .u64 0), .val (.int .u64 0), .val (.int .u64 0), .val (.int .u64 0), .val (.int .u64 0), .val (.int .u64 0), .val (.int .u64 0), .val (.int .u64 0), .val (.int .u64 0), .val (.int .i64 0)]] } a W → I a W := fun m o h a W rep => again (i + 1) hlt (by omega) a W (by rw [h]; exact rep)
    have hadd : ArOk .add .i64 (i : Int) 1 ((i + 1 : Nat) : Int) := ArOk.to (by omega) (by omega) (by omega)
    unfold stepF at hsn
    simp only [getD_is hlt] at hsn
    generalize scanF D line i = q at hsl hsm hsn ⊢
    obtain ⟨m, o⟩ := q
    simp only at hsl hsm hsn ⊢
    have hb : 0 ≤ (i : Int) ∧ (i : Int) < (D.es.length : Int) := ⟨by omega, by omega⟩
    have hmadd : ArOk .add .i64 (m : Int) 1 ((m + 1 : Nat) : Int) := ArOk.to (by omega) (by omega) (by omega)
    refine ⟨hb, _, esV_atm 0 hlt (by omega) rfl, _, DivOk.rem_nn (hnn _ (List.getElem_mem hlt)) hs, _, DivOk.rem_nn hln hs, fun hne => ?_, fun he => ?_⟩
    ·rw [if_neg (by simpa using hne)] at hsn
     exact ⟨_, hadd, lend_rule fun a W rep => hgo m o hsn a W (rep.le (by simp only [dcS]; (simp only [setn, List.nil_append, List.cons_append, leF, leH_nil, leH_cons, leF_nil, lk, scp, scpL, scpO, resF, resH, resO, resV, resVL, nth, Nat.reduceBEq, Nat.reduceLT, decide_true, decide_false, List.length, List.length_cons, List.length_nil, Nat.reduceAdd, Bool.and_self, Bool.and_true, and_true, true_and, numF] <;> try simp)) (by simp only [dcS]; (simp only [setn, List.nil_append, List.cons_append, leF, leH_nil, leH_cons, leF_nil, lk, scp, scpL, scpO, resF, resH, resO, resV, resVL, nth, Nat.reduceBEq, Nat.reduceLT, decide_true, decide_false, List.length, List.length_cons, List.length_nil, Nat.reduceAdd, Bool.and_self, Bool.and_true, and_true, true_and, numF] <;> try simp)))⟩
    ·rw [if_pos (by simpa using he)] at hsn
     refine ⟨_, hmadd, hb, D.es[i].rd, esV_atm 2 hlt (by omega) rfl, fun h2 => ⟨hb, D.es[i].wr, esV_atm 3 hlt (by omega) rfl, fun h3 => ?_, fun h3 => ?_⟩, fun h2 => ?_⟩
     ·have h2 : D.es[i].rd = false := by simpa using h2
      have h3 : D.es[i].wr = false := by simpa using h3
      rw [h2, h3] at hsn
      cases o with
      | none =>
       simp only [goI]
       refine ⟨fun _ => ⟨_, hadd, lend_rule fun a W rep => hgo (m + 1) (some i) hsn a W (rep.le (by simp only [dcS, goI]; (simp only [setn, List.nil_append, List.cons_append, leF, leH_nil, leH_cons, leF_nil, lk, scp, scpL, scpO, resF, resH, resO, resV, resVL, nth, Nat.reduceBEq, Nat.reduceLT, decide_true, decide_false, List.length, List.length_cons, List.length_nil, Nat.reduceAdd, Bool.and_self, Bool.and_true, and_true, true_and, numF] <;> try simp)) (by simp only [dcS]; (simp only [setn, List.nil_append, List.cons_append, leF, leH_nil, leH_cons, leF_nil, lk, scp, scpL, scpO, resF, resH, resO, resV, resVL, nth, Nat.reduceBEq, Nat.reduceLT, decide_true, decide_false, List.length, List.length_cons, List.length_nil, Nat.reduceAdd, Bool.and_self, Bool.and_true, and_true, true_and, numF] <;> try simp)))⟩, fun h => absurd h (by simp)⟩
      | some k =>
       have hk : k < D.es.length := Nat.lt_trans (hsl k rfl) hlt
       simp only [goI, getD_is hk] at hsn ⊢
       refine ⟨fun h => absurd (of_decide_eq_true h) (by omega), fun _ => ⟨hb, _, esV_atm 20 hlt (by omega) rfl, ⟨by omega, by omega⟩, _, esV_atm 20 hk (by omega) rfl, fun h4 => ?_, fun h4 => ?_⟩⟩
       ·have h4 := of_decide_eq_true h4
        exact ⟨_, hadd, lend_rule fun a W rep => hgo (m + 1) (some i) (by rw [hsn]; simp [h4]) a W (rep.le (by simp only [dcS, goI]; (simp only [setn, List.nil_append, List.cons_append, leF, leH_nil, leH_cons, leF_nil, lk, scp, scpL, scpO, resF, resH, resO, resV, resVL, nth, Nat.reduceBEq, Nat.reduceLT, decide_true, decide_false, List.length, List.length_cons, List.length_nil, Nat.reduceAdd, Bool.and_self, Bool.and_true, and_true, true_and, numF] <;> try simp)) (by simp only [dcS]; (simp only [setn, List.nil_append, List.cons_append, leF, leH_nil, leH_cons, leF_nil, lk, scp, scpL, scpO, resF, resH, resO, resV, resVL, nth, Nat.reduceBEq, Nat.reduceLT, decide_true, decide_false, List.length, List.length_cons, List.length_nil, Nat.reduceAdd, Bool.and_self, Bool.and_true, and_true, true_and, numF] <;> try simp)))⟩
       ·have h4 := of_decide_eq_false h4
        exact ⟨_, hadd, lend_rule fun a W rep => hgo (m + 1) (some k) (by rw [hsn]; simp [h4]) a W (rep.le (by simp only [dcS, goI]; (simp only [setn, List.nil_append, List.cons_append, leF, leH_nil, leH_cons, leF_nil, lk, scp, scpL, scpO, resF, resH, resO, resV, resVL, nth, Nat.reduceBEq, Nat.reduceLT, decide_true, decide_false, List.length, List.length_cons, List.length_nil, Nat.reduceAdd, Bool.and_self, Bool.and_true, and_true, true_and, numF] <;> try simp)) (by simp only [dcS]; (simp only [setn, List.nil_append, List.cons_append, leF, leH_nil, leH_cons, leF_nil, lk, scp, scpL, scpO, resF, resH, resO, resV, resVL, nth, Nat.reduceBEq, Nat.reduceLT, decide_true, decide_false, List.length, List.length_cons, List.length_nil, Nat.reduceAdd, Bool.and_self, Bool.and_true, and_true, true_and, numF] <;> try simp)))⟩
     ·have h3 : D.es[i].wr = true := by simpa using h3
      exact ⟨_, hadd, lend_rule fun a W rep => hgo (m + 1) o (by rw [hsn, h3]; simp) a W (rep.le (by simp only [dcS]; (simp only [setn, List.nil_append, List.cons_append, leF, leH_nil, leH_cons, leF_nil, lk, scp, scpL, scpO, resF, resH, resO, resV, resVL, nth, Nat.reduceBEq, Nat.reduceLT, decide_true, decide_false, List.length, List.length_cons, List.length_nil, Nat.reduceAdd, Bool.and_self, Bool.and_true, and_true, true_and, numF] <;> try simp)) (by simp only [dcS]; (simp only [setn, List.nil_append, List.cons_append, leF, leH_nil, leH_cons, leF_nil, lk, scp, scpL, scpO, resF, resH, resO, resV, resVL, nth, Nat.reduceBEq, Nat.reduceLT, decide_true, decide_false, List.length, List.length_cons, List.length_nil, Nat.reduceAdd, Bool.and_self, Bool.and_true, and_true, true_and, numF] <;> try simp)))⟩
     ·have h2 : D.es[i].rd = true := by simpa using h2
      exact ⟨_, hadd, lend_rule fun a W rep => hgo (m + 1) o (by rw [hsn, h2]; simp) a W (rep.le (by simp only [dcS]; (simp only [setn, List.nil_append, List.cons_append, leF, leH_nil, leH_cons, leF_nil, lk, scp, scpL, scpO, resF, resH, resO, resV, resVL, nth, Nat.reduceBEq, Nat.reduceLT, decide_true, decide_false, List.length, List.length_cons, List.length_nil, Nat.reduceAdd, Bool.and_self, Bool.and_true, and_true, true_and, numF] <;> try simp)) (by simp only [dcS]; (simp only [setn, List.nil_append, List.cons_append, leF, leH_nil, leH_cons, leF_nil, lk, scp, scpL, scpO, resF, resH, resO, resV, resVL, nth, Nat.reduceBEq, Nat.reduceLT, decide_true, decide_false, List.length, List.length_cons, List.length_nil, Nat.reduceAdd, Bool.and_self, Bool.and_true, and_true, true_and, numF] <;> try simp)))⟩
 have bad : argB line state = true → fillDV D line state = .tuple #[.agg (enV zE).toArray, .bool false, .int .i64 2] ∧ fillD D line state d = D := fun h => ⟨by unfold fillDV fillDA; rw [if_pos h], by unfold fillD; rw [if_pos h]⟩
 refine ⟨fun h1 => ?_, fun h1 => ⟨fun h2 => ⟨fun h3 => ?_, fun h3 => ?_⟩, fun h2 => ?_⟩⟩
 ·obtain ⟨q1, q2⟩ := bad (by unfold argB; rw [h1]; rfl)
  exact ret_rv (vs := [.agg (enV zE).toArray, .bool false, .int .i64 2]) r30 rfl rfl fun W hW => fin _ D W [_, _] 0 A cc (by rw [q1]; rfl) q2.symm hW
 ·obtain ⟨q1, q2⟩ := bad (by unfold argB; rw [h2, h3]; simp)
  exact ret_rv (vs := [.agg (enV zE).toArray, .bool false, .int .i64 2]) r30 rfl rfl fun W hW => fin _ D W [_, _] 0 A cc (by rw [q1]; rfl) q2.symm hW
 ·exact G.le rfl (fun a W rep => rep.le (by simp only [dcS]; (simp only [setn, List.nil_append, List.cons_append, leF, leH_nil, leH_cons, leF_nil, lk, scp, scpL, scpO, resF, resH, resO, resV, resVL, nth, Nat.reduceBEq, Nat.reduceLT, decide_true, decide_false, List.length, List.length_cons, List.length_nil, Nat.reduceAdd, Bool.and_self, Bool.and_true, and_true, true_and, numF] <;> try simp)) (by simp only [dcS]; (simp only [setn, List.nil_append, List.cons_append, leF, leH_nil, leH_cons, leF_nil, lk, scp, scpL, scpO, resF, resH, resO, resV, resVL, nth, Nat.reduceBEq, Nat.reduceLT, decide_true, decide_false, List.length, List.length_cons, List.length_nil, Nat.reduceAdd, Bool.and_self, Bool.and_true, and_true, true_and, numF] <;> try simp))) (main (by unfold argB; rw [h1, h3]; simp))
 ·exact G.le rfl (fun a W rep => rep.le (by simp only [dcS]; (simp only [setn, List.nil_append, List.cons_append, leF, leH_nil, leH_cons, leF_nil, lk, scp, scpL, scpO, resF, resH, resO, resV, resVL, nth, Nat.reduceBEq, Nat.reduceLT, decide_true, decide_false, List.length, List.length_cons, List.length_nil, Nat.reduceAdd, Bool.and_self, Bool.and_true, and_true, true_and, numF] <;> try simp)) (by simp only [dcS]; (simp only [setn, List.nil_append, List.cons_append, leF, leH_nil, leH_cons, leF_nil, lk, scp, scpL, scpO, resF, resH, resO, resV, resVL, nth, Nat.reduceBEq, Nat.reduceLT, decide_true, decide_false, List.length, List.length_cons, List.length_nil, Nat.reduceAdd, Bool.and_self, Bool.and_true, and_true, true_and, numF] <;> try simp))) (main (by unfold argB; rw [h1, h2]; simp))
end Go.Proofs.Ytimmobbginjkfaa
