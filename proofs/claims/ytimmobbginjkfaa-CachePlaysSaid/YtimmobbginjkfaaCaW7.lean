/- l1: Fill (printed by mkca7.py). -/
import Derived.Test.YtimmobbginjkfaaCaW6
import Derived.Test.YtimmobbginjkfaaCaCode
set_option linter.unusedSimpArgs false
set_option linter.unusedVariables false
set_option linter.unnecessarySimpa false
namespace Go.Proofs.Ytimmobbginjkfaa
open Go Go.Sx Go.Ca
set_option maxRecDepth 100000
theorem rmTo_lt {c : Ca} (ok : CaOk c) (line : Int) : ∀ i, i ≤ c.ways → ∀ a b, rmTo c (c.from line) i = (a, b) → (∀ k, a = some k → k < c.n) ∧ ∀ k, b = some k → k < c.n
 | 0, _, a, b, h => by
  simp only [rmTo] at h
  injection h with h1 h2
  subst h1; subst h2; simp
 | i + 1, hi, a, b, h => by
  simp only [rmTo] at h
  have hj := Ca.from_lt ok line (i := i) (by omega)
  cases hq : rmTo c (c.from line) i with
  | mk x y =>
   obtain ⟨ih1, ih2⟩ := rmTo_lt ok line i (by omega) x y hq
   rw [hq] at h
   cases x with
   | some k =>
    simp only at h
    injection h with h1 h2
    subst h1; subst h2
    exact ⟨ih1, ih2⟩
   | none =>
    simp only at h
    unfold rmS at h
    split at h
    ·injection h with h1 h2
     subst h1; subst h2
     exact ⟨fun k hk => by injection hk with hk; omega, ih2⟩
    ·split at h
     ·injection h with h1 h2
      subst h1; subst h2
      exact ⟨by simp, ih2⟩
     ·split at h
      ·injection h with h1 h2
       subst h1; subst h2
       exact ⟨by simp, fun k hk => by injection hk with hk; omega⟩
      ·split at h
       ·injection h with h1 h2
        subst h1; subst h2
        exact ⟨by simp, fun k hk => by injection hk with hk; omega⟩
       ·injection h with h1 h2
        subst h1; subst h2
        exact ⟨by simp, ih2⟩
theorem roomC_lt {c : Ca} (ok : CaOk c) {line : Int} {j : Nat} (h : roomC c line = some j) : j < c.n := by
 unfold roomC at h
 cases hq : rmTo c (c.from line) c.ways with
 | mk x y =>
  obtain ⟨h1, h2⟩ := rmTo_lt ok line c.ways (Nat.le_refl _) x y hq
  rw [hq] at h
  cases x with
  | some k => simp only at h; injection h with h; subst h; exact h1 k rfl
  | none => simp only at h; exact h2 j h
theorem call_room {C : Cx} {E : Env} {d : Option Nat} {args : List Operand} {l : List XS} {k : List KI} {F : List (Nat × SV)} (gc gs : Nat) (c : Ca) (ok : CaOk c) (line : Int) (hl : 0 ≤ line) (r : List SO) (hP : C.P = Try.prog) (hargs : denL (caF gc gs c ++ r) (evL F args) = some [.pointer (some ⟨gc, 0, none⟩), .int .i64 line])
  (yes : ∀ j, roomC c line = some j → G C E (.ops l :: k) { F := putF F d (.ptr 1 (j * 21)), H := caF gc gs c ++ r }) (no : roomC c line = none → G C E (.ops l :: k) { F := putF F d (.val (.pointer none)), H := caF gc gs c ++ r }) :
  G C E (.ops ({ dst := d, guard := none, i := .call 41 args } :: l) :: k) { F := F, H := caF gc gs c ++ r } := by
 refine call_lent (H1 := caF gc gs c) (r := r) (fun v H1' => v = roomV gs c line ∧ H1' = caF gc gs c) (caF_scp gc gs c) hargs (fun W hW hh => ?_) fun v H1' hv => ?_
 ·rw [hP]
  exact (room41 gc gs c ok line hl hh).mono fun v W' hv => ⟨_, ⟨hv.1, rfl⟩, HExt.refl _, rfl, hv.2⟩
 obtain ⟨rfl, rfl⟩ := hv
 unfold roomV
 cases h : roomC c line with
 | some j => exact ⟨.ptr 1 (j * 21), by simp [Is, caF, blk, nth, SO.blk], yes j h⟩
 | none => exact ⟨.val (.pointer none), by simp [Is], no h⟩
def argB (line st : Int) : Bool := decide (line < 0) || (st != 1 && st != 2)
def fillE (line st : Int) (d : Nat → Int) (u : Int) : En := ⟨line, st, false, false, d, zF, u⟩
def fillC (c : Ca) (line st : Int) (d : Nat → Int) : Ca := if argB line st then c else match atC c line with
 | some _ => c
 | none => match roomC c line with
  | none => c
  | some j => { c with uses := c.uses + 1, sl := upd c.sl j (fillE line st d (c.uses + 1)) }
def fillA (c : Ca) (line st : Int) : En × Bool × Int := if argB line st then (zE, false, 2) else match atC c line with
 | some _ => (zE, false, 21)
 | none => match roomC c line with
  | none => (zE, false, 22)
  | some j => (c.sl j, (c.sl j).st != 0, 0)
def fillV (c : Ca) (line st : Int) : Value := .tuple #[.agg (enV (fillA c line st).1).toArray, .bool (fillA c line st).2.1, .int .i64 (fillA c line st).2.2]
theorem fill19 {E0 : Env} {W : World} (gc gs : Nat) (c : Ca) (ok : CaOk c) (line state : Int) (d : Nat → Int) (hW : HeapOk E0 (caF gc gs c) W) :
  CallsV Try.prog 19 [.pointer (some ⟨gc, 0, none⟩), .int .i64 line, .int .i64 state, .agg (dV d).toArray] W fun v W' => v = fillV c line state ∧ HeapOk E0 (caF gc gs (fillC c line state d)) W' := by
 obtain ⟨b0, N, st, nt0, mk0⟩ := E0
 refine calls_lent (keep := K19) (nt := 57) (svs := [.ptr 0 0, .val (.int .i64 line), .val (.int .i64 state), .agg [.val (.int .u64 (d 0)), .val (.int .u64 (d 1)), .val (.int .u64 (d 2)), .val (.int .u64 (d 3)), .val (.int .u64 (d 4)), .val (.int .u64 (d 5)), .val (.int .u64 (d 6)), .val (.int .u64 (d 7))]]) Try.func19 x19 n19 (by simp) hW (by simp [IsL, Is, caF, blk, nth, SO.blk, dV, enV]) fun R hR => ?_
 have fin : ∀ (v : Value) (c' : Ca) (W : World) (r : List SO), v = fillV c line state → c' = fillC c line state d → HeapOk ⟨b0, N, st, 57, []⟩ (caF gc gs c' ++ r) W → R v W := fun v c' W r hv hc hW => hR _ _ ⟨hv, by rw [← hc]; exact HeapOk.env (E := ⟨b0, N, st, 57, []⟩) (E' := ⟨b0, N, st, nt0, mk0⟩) rfl rfl rfl (hW.pre (caF_pre gc gs c'))⟩
 (refine Y_go 600 ?_; dsimp only [X19, numF, Nat.reduceAdd, caF, zq9r, zq9q, Y_k, zq5f, zq8o, zq6n, Nat.reduceBEq, zq6l, zq6k, zq7t, List.length_cons, List.length_nil, zq8l, zq73, zq8m, zq8k, zq0a, zq1z, List.cons_append, List.nil_append, YK, zq8t, zq5e, List.map, zq6q, zq6p, zq4u, zq8p, zq9i, normF, zq6m, zq86, zq87, zq8a, zq8c, zq88, zq9y, t19n12, T19n12, zq9t, zq5t, zq3s, zq3q, zq9s, zq6h, zq8x, YC, t19n0, T19n0, zq5g, zq22, zq25, zq5d, zq7i, zq1x, nth, zq1t, dropL, takeL, zq1r, splice, setn, zq8s, zq89, zq9x, t19n4, T19n4, zq50, zq04, zq92, zq9b, zq0i, zq9e, Y_gk, zq6e, YS, zq6a, zq02, zq4v, zq6o, zq0b, zq6f, t19n1, T19n1, YR, zq6c, zq9d, zq6d, zq69, zq0c, t19n3, T19n3, zq9j, zq6b, zq6g])
 intro gb gw
 refine ⟨fun h => absurd h (by decide), fun _ => ?_⟩
 refine ⟨fun h1 => ?_, fun h1 => ⟨fun h2 => ⟨fun h3 => ?_, fun h3 => ?_⟩, fun h2 => ?_⟩⟩
 ·have ha : argB line state = true := by unfold argB; rw [h1]; rfl
  exact ret_rv (vs := [.agg (enV zE).toArray, .bool false, .int .i64 2]) r19 rfl rfl fun W hW => fin _ c W [_, _] (by unfold fillV fillA; rw [if_pos ha]; rfl) (by unfold fillC; rw [if_pos ha]) hW
 ·have ha : argB line state = true := by unfold argB; rw [h2, h3]; simp
  exact ret_rv (vs := [.agg (enV zE).toArray, .bool false, .int .i64 2]) r19 rfl rfl fun W hW => fin _ c W [_, _] (by unfold fillV fillA; rw [if_pos ha]; rfl) (by unfold fillC; rw [if_pos ha]) hW
 all_goals
  have ha : ¬ argB line state = true := by unfold argB; rw [h1]; first | (rw [h2, h3]; simp) | (rw [h2]; simp)
  have hl0 : 0 ≤ line := by have := of_decide_eq_false h1; omega
  refine call_at gc gs c ok line [_, _] rfl rfl (fun j hj => ?_) (fun hno => ?_)
  ·dsimp only [zq8t, caF, List.cons_append, List.nil_append]
   (refine Y_go 600 ?_; dsimp only [Y_k, zq5t, zq8o, zq6n, Nat.reduceBEq, zq6k, zq3s, zq3p, YK, zq8t, zq4u, zq9i, normF, zq6l, zq6m, zq86, zq87, zq8a, zq8c, zq88, zq9s, zq6h, zq8x, YC, zq9y, t19n2, T19n2, zq9r, zq9q, zq5g, List.map, zq6q, zq6p, zq22, zq25, zq5d, zq7t, List.length_cons, List.length_nil, Nat.reduceAdd, zq8l, zq73, zq8m, zq7i, zq8k, zq0a, zq1x, nth, zq1t, dropL, takeL, zq1r, splice, setn, zq8s, zq8p, zq89, zq9x, zq9p, zqa1, t19n11, T19n11, zq9j])
   refine ⟨fun _ => ?_, fun h => absurd h (by decide)⟩
   exact ret_rv (vs := [.agg (enV zE).toArray, .bool false, .int .i64 21]) r19 rfl rfl fun W hW => fin _ c W [_, _] (by unfold fillV fillA; rw [if_neg ha, hj]; rfl) (by unfold fillC; rw [if_neg ha, hj]) hW
  ·dsimp only [zq8t, caF, List.cons_append, List.nil_append]
   (refine Y_go 600 ?_; dsimp only [Y_k, zq5t, zq8o, zq6n, Nat.reduceBEq, zq6k, zq3u, zq3p, YK, zq8t, zq4u, zq9i, normF, zq6l, zq6m, zq86, zq87, zq8a, zq8c, zq88, zq9s, zq6h, zq8x, YC, zq9y, t19n2, T19n2, zq9r, zq9q, zq5g, List.map, zq6q, zq6p, zq22, zq25, zq5d, zq7t, List.length_cons, List.length_nil, Nat.reduceAdd, zq8l, zq73, zq8m, zq7i, zq8k, zq0a, zq1x, nth, zq1t, dropL, takeL, zq1r, splice, setn, zq8s, zq8p, zq89, zq9x, zq9p, zqa1, t19n11, T19n11, zq9j])
   refine ⟨fun h => absurd h (by decide), fun _ => ?_⟩
   refine call_room gc gs c ok line hl0 [_, _] rfl rfl (fun j hj => ?_) (fun hnr => ?_)
   ·have hjn := roomC_lt ok hj
    dsimp only [zq8t, caF, List.cons_append, List.nil_append]
    (refine Y_go 600 ?_; dsimp only [Y_k, zq4u, zq8o, zq6n, Nat.reduceBEq, zq6k, YK, zq8t, zq9i, normF, zq6l, zq6m, zq86, zq8a, zq8c, zq87, zq88, zq9y, t19n10, T19n10, zq9r, zq9q, zq5t, zq3s, zq3q, zq9s, zq6h, zq8x, YC, t19n5, T19n5, zq5g, List.map, zq6q, zq6p, zq22, zq25, zq5d, zq7t, List.length_cons, List.length_nil, Nat.reduceAdd, zq8l, zq73, zq8m, zq7i, zq8k, zq0a, zq1x, nth, zq1t, dropL, takeL, zq1r, splice, setn, zq8s, zq8p, zq89, zq9x, zq9p, t19n9, T19n9, zq5i, zq29, zq5c, zq1o, zq1l, zq1c, List.nil_append, List.cons_append, zq1d, zq1b, zq17, zq5e, zq7g, t19n8, T19n8, zq1k, zq19, zq21, zq7u, zq20, zq1u, denL, den, zq1s, t19n7, T19n7, zq9j])
    refine ⟨fun h => absurd h (by decide), fun _ => ⟨_, slV_atm 0 hjn (by omega) rfl, _, slV_atm 1 hjn (by omega) rfl, _, slV_atm 2 hjn (by omega) rfl, _, slV_atm 3 hjn (by omega) rfl, _, slV_atm 4 hjn (by omega) rfl, _, slV_atm 5 hjn (by omega) rfl, _, slV_atm 6 hjn (by omega) rfl, _, slV_atm 7 hjn (by omega) rfl, _, slV_atm 8 hjn (by omega) rfl, _, slV_atm 9 hjn (by omega) rfl, _, slV_atm 10 hjn (by omega) rfl, _, slV_atm 11 hjn (by omega) rfl, _, slV_atm 12 hjn (by omega) rfl, _, slV_atm 13 hjn (by omega) rfl, _, slV_atm 14 hjn (by omega) rfl, _, slV_atm 15 hjn (by omega) rfl, _, slV_atm 16 hjn (by omega) rfl, _, slV_atm 17 hjn (by omega) rfl, _, slV_atm 18 hjn (by omega) rfl, _, slV_atm 19 hjn (by omega) rfl, _, slV_atm 20 hjn (by omega) rfl, fun gx => ⟨by rw [slV_len]; omega, ?_⟩⟩⟩
    have hl : ([.int .i64 line, .int .i64 state, .bool false, .bool false, .int .u64 (d 0), .int .u64 (d 1), .int .u64 (d 2), .int .u64 (d 3), .int .u64 (d 4), .int .u64 (d 5), .int .u64 (d 6), .int .u64 (d 7), .int .u64 0, .int .u64 0, .int .u64 0, .int .u64 0, .int .u64 0, .int .u64 0, .int .u64 0, .int .u64 0, .int .i64 0] : List Value).length = (enV (c.sl j)).length := by simp [enV]
    have he := splice_all (enV (c.sl j)) [.int .i64 line, .int .i64 state, .bool false, .bool false, .int .u64 (d 0), .int .u64 (d 1), .int .u64 (d 2), .int .u64 (d 3), .int .u64 (d 4), .int .u64 (d 5), .int .u64 (d 6), .int .u64 (d 7), .int .u64 0, .int .u64 0, .int .u64 0, .int .u64 0, .int .u64 0, .int .u64 0, .int .u64 0, .int .u64 0, .int .i64 0] hl
    have e2 := slV_splice (n := c.n) (i := j) (k := 0) (f := c.sl) (us := [.int .i64 line, .int .i64 state, .bool false, .bool false, .int .u64 (d 0), .int .u64 (d 1), .int .u64 (d 2), .int .u64 (d 3), .int .u64 (d 4), .int .u64 (d 5), .int .u64 (d 6), .int .u64 (d 7), .int .u64 0, .int .u64 0, .int .u64 0, .int .u64 0, .int .u64 0, .int .u64 0, .int .u64 0, .int .u64 0, .int .i64 0]) (e := fillE line state d 0) hjn (by simp) he
    simp only [Nat.add_zero, splice] at e2
    rw [e2]
    clear e2 he hl
    refine call_use gc gs { c with sl := upd c.sl j (fillE line state d 0) } ⟨ok.s1, ok.s8, ok.w1, ok.w4, ok.u0, ok.u1⟩ j hjn [_, _, _] rfl rfl ?_
    dsimp only [zq8t, caF, List.cons_append, List.nil_append]
    (refine Y_go 600 ?_; dsimp only [zq9i, normF, zq6n, Nat.reduceBEq, zq6l, zq6k, zq8a, zq8c, zq87, zq88, zq9y, t19n6, T19n6, zq9r, zq9q, Y_k, zq5c, zq8o, zq1o, nth, zq1k, List.length_cons, List.length_nil, Nat.reduceAdd, dropL, takeL, zq19, zq17, YK, zq8t, zq5a, zq14, zq18, zq50, zq8p, zq6q, zq04, zq92, zq9b, zq0i, zq9d, zq5d, zq7t, zq8l, zq73, zq8m, zq7g, zq8k, zq0a, zq1x, zq1t, zq1r, splice, setn, zq8s, zq9m])
    (refine still_y (by dsimp only [zq6n, Nat.reduceBEq, zq6l, zq6k, zq5c, zq8o, zq1o, nth, zq1k, List.length_cons, List.length_nil, Nat.reduceAdd, dropL, takeL, zq19, zq18]; exact ⟨rfl, det_of_den rfl⟩) ?_; refine Y_go 600 ?_; dsimp only [Y_k, zq4u, zq8o, zq6n, Nat.reduceBEq, zq6k, YK, zq8t, zq8p, zq6q, zq9i, normF, zq6l, zq8a, zq8c, zq87, zq88, zq9x])
    have hc : fillC c line state d = useC { c with sl := upd c.sl j (fillE line state d 0) } j := by
     unfold fillC
     rw [if_neg ha, hno]
     simp only [hj, useC, upd_at, upd_upd]
     rfl
    exact ret_rv (vs := [.agg (enV (c.sl j)).toArray, .bool ((c.sl j).st != 0), .int .i64 0]) r19 rfl rfl fun W hW => fin _ (useC { c with sl := upd c.sl j (fillE line state d 0) } j) W [_, _, _] (by unfold fillV fillA; rw [if_neg ha, hno, hj]; rfl) hc.symm hW
   ·dsimp only [zq8t, caF, List.cons_append, List.nil_append]
    (refine Y_go 600 ?_; dsimp only [Y_k, zq4u, zq8o, zq6n, Nat.reduceBEq, zq6k, YK, zq8t, zq9i, normF, zq6l, zq6m, zq86, zq8a, zq87, zq8c, zq88, zq9y, t19n10, T19n10, zq9r, zq9q, zq5t, zq3u, zq3q, zq9s, zq6h, zq8x, YC, t19n5, T19n5, zq5g, List.map, zq6q, zq6p, zq22, zq25, zq5d, zq7t, List.length_cons, List.length_nil, Nat.reduceAdd, zq8l, zq73, zq8m, zq7i, zq8k, zq0a, zq1x, nth, zq1t, dropL, takeL, zq1r, splice, setn, zq8s, zq8p, zq89, zq9x, zq9p, t19n9, T19n9, zq5i])
    refine ⟨fun _ => ?_, fun h => absurd h (by decide)⟩
    exact ret_rv (vs := [.agg (enV zE).toArray, .bool false, .int .i64 22]) r19 rfl rfl fun W hW => fin _ c W [_, _] (by unfold fillV fillA; rw [if_neg ha, hno, hnr]; rfl) (by unfold fillC; rw [if_neg ha, hno, hnr]) hW
end Go.Proofs.Ytimmobbginjkfaa
