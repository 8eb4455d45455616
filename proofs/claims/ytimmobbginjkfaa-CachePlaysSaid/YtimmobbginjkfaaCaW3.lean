/- l1: Mark, Demote, Promote, Drop, Find (printed by mkca2.py). -/
import Derived.Test.YtimmobbginjkfaaCaW1
import Derived.Test.YtimmobbginjkfaaCaCode
set_option linter.unusedSimpArgs false
set_option linter.unusedVariables false
set_option linter.unnecessarySimpa false
namespace Go.Proofs.Ytimmobbginjkfaa
open Go Go.Sx Go.Ca
set_option maxRecDepth 100000
theorem mark12 {E0 : Env} {W : World} (gc gs : Nat) (c : Ca) (ok : CaOk c) (line : Int) (w : Bool) (hW : HeapOk E0 (caF gc gs c) W) :
  CallsV Try.prog 12 [.pointer (some ⟨gc, 0, none⟩), .int .i64 line, .bool w] W fun v W' => v = markV c line w ∧ HeapOk E0 (caF gc gs (markC c line w)) W' := by
 obtain ⟨b0, N, st, nt0, mk0⟩ := E0
 refine calls_lent (keep := K12) (nt := 51) (svs := [.ptr 0 0, .val (.int .i64 line), .val (.bool w)]) Try.func12 x12 n12 (by simp) hW (by simp [IsL, Is, caF, blk, nth, SO.blk, dV, enV]) fun R hR => ?_
 have fin : ∀ (v : Value) (c' : Ca) (W : World) (r : List SO), v = markV c line w → c' = markC c line w → HeapOk ⟨b0, N, st, 51, []⟩ (caF gc gs c' ++ r) W → R v W := fun v c' W r hv hc hW => hR _ _ ⟨hv, by rw [← hc]; exact HeapOk.env (E := ⟨b0, N, st, 51, []⟩) (E' := ⟨b0, N, st, nt0, mk0⟩) rfl rfl rfl (hW.pre (caF_pre gc gs c'))⟩
 (refine Y_go 600 ?_; dsimp only [X12, numF, Nat.reduceAdd, caF, zq9r, zq9q, Y_k, zq4u, zq8p, zq6q, YK, zq8t, zq9i, normF, zq6n, Nat.reduceBEq, zq6l, zq6k, zq6m, zq86, zq87, zq8c, zq9y, t12n8, T12n8, zq8o, zq53, zq0o, zq9s, zq6h, zq8x, YC, t12n3, T12n3, zq9j, zq9p, t12n7, T12n7])
 refine ⟨fun h1 => ?_, fun h1 => ?_⟩
 ·have h1 : w = false := by simpa using h1
  subst h1
  refine call_in gc gs c ok line 0 [] rfl rfl (fun j hj => ?_) (fun hno => ?_)
  ·have hjn := inC_lt ok hj
   dsimp only [zq8t, caF, List.cons_append, List.nil_append]
   (refine Y_go 600 ?_; dsimp only [Y_k, zq4u, zq8o, zq6n, Nat.reduceBEq, zq6k, YK, zq8t, zq5j, zq2f, nth, zq2e, zq6l, zq9i, normF, zq6m, zq86, zq89, zq87, zq8c, zq9y, t12n2, T12n2, zq9r, zq9q, zq50, zq8p, zq6q, zq04, zq92, zq9b, zq0i, zq9c, zq9s, zq6h, zq8x, YC, t12n0, T12n0, zq5i, zq29, zq5a, zq14, zq5d, zq6o, zq7v, zq7h, zq0a, zq1x, zq1u, denL, den, zq1s, splice, setn, zq8s, t12n1, T12n1, zq9x, zq9p, zq8a])
   refine ⟨fun _ => ⟨by rw [slV_len]; omega, ?_⟩, fun h => absurd h (by decide)⟩
   rw [slV_setn hjn (by decide) (e := { c.sl j with rd := true }) rfl]
   exact ret_rule (vs := [.int .i64 0]) r12 rfl rfl fun W hW => fin _ { c with sl := upd c.sl j { c.sl j with rd := true } } W [] (by unfold markV inE; simp [hj, tupOf]) (by unfold markC; simp [hj]) hW
  ·dsimp only [zq8t, caF, List.cons_append, List.nil_append]
   (refine Y_go 600 ?_; dsimp only [Y_k, zq4u, zq8o, zq6n, Nat.reduceBEq, zq6k, YK, zq8t, zq5j, zq2f, nth, zq2e, zq6l, zq9i, normF, zq6m, zq86, zq89, zq87, zq8c, zq9y, t12n2, T12n2, zq9r, zq9q, zq50, zq8p, zq6q, zq04, zq92, zq9b, zq0i, zq9c, zq9s, zq6h, zq8x, YC, t12n0, T12n0, zq5i, zq9p, t12n1, T12n1, zq8a, zq9x])
   refine ⟨fun h => absurd h (by decide), fun _ => ?_⟩
   exact ret_rule (vs := [.int .i64 20]) r12 rfl rfl fun W hW => fin _ c W [] (by unfold markV inE; simp [hno, tupOf]) (by unfold markC; simp [hno]) hW
 ·have h1 : w = true := by simpa using h1
  subst h1
  refine call_in gc gs c ok line 2 [] rfl rfl (fun j hj => ?_) (fun hno => ?_)
  ·have hjn := inC_lt ok hj
   dsimp only [zq8t, caF, List.cons_append, List.nil_append]
   (refine Y_go 600 ?_; dsimp only [Y_k, zq4u, zq8o, zq6n, Nat.reduceBEq, zq6k, YK, zq8t, zq5j, zq2f, nth, zq2e, zq6l, zq9i, normF, zq6m, zq86, zq8a, zq87, zq8c, zq9y, t12n6, T12n6, zq9r, zq9q, zq50, zq8p, zq6q, zq04, zq92, zq9b, zq0i, zq9c, Y_gk, zq6d, YR, zq69, zq5i, zq29, zq5a, zq14, zq5c, zq1o, zq1l, zq1d, List.nil_append, zq1b, zq18, zq53, zq0o, zq4v, zq6p, zq0b, zq9s, zq6h, zq8x, YC, t12n4, T12n4, zq1c, List.cons_append, zq17, zq5d, zq6o, zq7v, zq7h, zq0a, zq1x, zq1u, denL, den, zq1s, splice, setn, zq8s, zq7t, List.length_cons, List.length_nil, Nat.reduceAdd, zq8l, zq73, zq8m, zq8k, zq89, t12n5, T12n5, zq9x, zq9p, YS, zq6b, zq0c, zq6g])
   refine ⟨fun _ => ⟨(c.sl j).wr, slV_at (k := 3) hjn rfl, fun h2 => ⟨_, slV_at (k := 4) hjn rfl, _, slV_at (k := 5) hjn rfl, _, slV_at (k := 6) hjn rfl, _, slV_at (k := 7) hjn rfl, _, slV_at (k := 8) hjn rfl, _, slV_at (k := 9) hjn rfl, _, slV_at (k := 10) hjn rfl, _, slV_at (k := 11) hjn rfl, by rw [slV_len]; omega, by rw [slV_setn hjn (by decide) (e := { c.sl j with wr := true }) rfl, slV_len]; omega, ?_⟩, fun h2 => ?_⟩, fun h => absurd h (by decide)⟩
   ·have h2 : (c.sl j).wr = false := by simpa using h2
    have e1 := slV_setn (f := c.sl) (u := .bool true) hjn (k := 3) (by decide) (e := { c.sl j with wr := true }) rfl
    have e2 := slV_splice (n := c.n) (i := j) (k := 12) (f := upd c.sl j { c.sl j with wr := true }) (us := dV (c.sl j).d) (e := { c.sl j with wr := true, o := (c.sl j).d }) hjn (by simp [dV]) (by rw [upd_at]; rfl)
    rw [← e1, upd_upd] at e2
    refine ret_rule (vs := [.int .i64 0]) r12 rfl rfl fun W hW => fin _ { c with sl := upd c.sl j { c.sl j with wr := true, o := (c.sl j).d } } W [] (by unfold markV inE; simp [hj, tupOf]) (by unfold markC; simp [hj, h2]) ?_
    show HeapOk _ [.cells gc 66 [.val (.int .i64 c.sets), .val (.int .i64 c.ways), .slc 1 0 c.n c.n, .val (.int .i64 c.uses)], .row gs 44 (slV c.n (upd c.sl j { c.sl j with wr := true, o := (c.sl j).d }))] W
    rw [← e2]
    exact hW
   ·have h2 : (c.sl j).wr = true := by simpa using h2
    exact ret_rule (vs := [.int .i64 0]) r12 rfl rfl fun W hW => fin _ c W [] (by unfold markV inE; simp [hj, tupOf]) (by unfold markC; simp [hj, h2]) hW
  ·dsimp only [zq8t, caF, List.cons_append, List.nil_append]
   (refine Y_go 600 ?_; dsimp only [Y_k, zq4u, zq8o, zq6n, Nat.reduceBEq, zq6k, YK, zq8t, zq5j, zq2f, nth, zq2e, zq6l, zq9i, normF, zq6m, zq86, zq8a, zq87, zq8c, zq9y, t12n6, T12n6, zq9r, zq9q, zq50, zq8p, zq6q, zq04, zq92, zq9b, zq0i, zq9c, Y_gk, zq6d, YR, zq69, zq5i, YS, zq6b, zq4v, zq6p, zq0c, zq9s, zq6g, YC, zq9p, t12n5, T12n5, zq9x])
   refine ⟨fun h => absurd h (by decide), fun _ => ?_⟩
   exact ret_rule (vs := [.int .i64 20]) r12 rfl rfl fun W hW => fin _ c W [] (by unfold markV inE; simp [hno, tupOf]) (by unfold markC; simp [hno]) hW
theorem demote21 {E0 : Env} {W : World} (gc gs : Nat) (c : Ca) (ok : CaOk c) (line : Int) (hW : HeapOk E0 (caF gc gs c) W) :
  CallsV Try.prog 21 [.pointer (some ⟨gc, 0, none⟩), .int .i64 line] W fun v W' => v = demV c line ∧ HeapOk E0 (caF gc gs (demC c line)) W' := by
 obtain ⟨b0, N, st, nt0, mk0⟩ := E0
 refine calls_lent (keep := K21) (nt := 25) (svs := [.ptr 0 0, .val (.int .i64 line)]) Try.func21 x21 n21 (by simp) hW (by simp [IsL, Is, caF, blk, nth, SO.blk, dV, enV]) fun R hR => ?_
 have fin : ∀ (v : Value) (c' : Ca) (W : World) (r : List SO), v = demV c line → c' = demC c line → HeapOk ⟨b0, N, st, 25, []⟩ (caF gc gs c' ++ r) W → R v W := fun v c' W r hv hc hW => hR _ _ ⟨hv, by rw [← hc]; exact HeapOk.env (E := ⟨b0, N, st, 25, []⟩) (E' := ⟨b0, N, st, nt0, mk0⟩) rfl rfl rfl (hW.pre (caF_pre gc gs c'))⟩
 (refine Y_go 600 ?_; dsimp only [X21, numF, Nat.reduceAdd, caF, zq9r, zq9q, Y_k, zq5e, List.length_cons, List.length_nil, List.map, zq6q, List.cons_append, List.nil_append, YK, zq8t, zq4u, zq8p, zq9i, normF, zq6n, Nat.reduceBEq, zq6l, zq6k, zq6m, zq86, zq87, zq8c, zq9y, t21n4, T21n4, zq8o, zq9j])
 intro gr
 refine call_in gc gs c ok line 2 [_] rfl rfl (fun j hj => ?_) (fun hno => ?_)
 ·have hjn := inC_lt ok hj
  have hv : demV c line = .tuple #[.agg (dV (c.sl j).d).toArray, .int .i64 0] := by unfold demV; rw [hj]
  have hc : demC c line = { c with sl := upd c.sl j { c.sl j with st := 1 } } := by unfold demC; rw [hj]
  dsimp only [zq8t, caF, List.cons_append, List.nil_append]
  (refine Y_go 600 ?_; dsimp only [Y_k, zq4u, zq8o, zq6n, Nat.reduceBEq, zq6k, YK, zq8t, zq5j, zq2f, nth, zq2e, zq6l, zq9i, normF, zq6m, zq86, zq87, zq8c, zq9y, t21n3, T21n3, zq9r, zq9q, zq50, zq8p, zq6q, zq04, zq92, zq9b, zq0i, zq9d, zq9s, zq6h, zq8x, YC, t21n0, T21n0, zq5g, List.map, zq22, zq25, zq5d, zq7t, List.length_cons, List.length_nil, Nat.reduceAdd, zq8l, zq73, zq8m, zq8k, zq0a, zq1x, zq1t, dropL, takeL, zq1r, splice, setn, zq8s, zq89, zq9x, zq9p, t21n2, T21n2, zq5i, zq29, zq5a, zq14, zq7u, zq1u, denL, den, zq1s, zq8a, t21n1, T21n1, zq5c, zq1o, zq1l, zq1c, List.nil_append, List.cons_append, zq1b, zq17])
  refine ⟨fun h => absurd h (by decide), fun _ => ⟨by rw [slV_len]; omega, ?_⟩⟩
  rw [slV_setn hjn (by decide) (e := { c.sl j with st := 1 }) rfl]
  have u : ∀ k v, (enV { c.sl j with st := 1 })[k]? = some v → (slV c.n (upd c.sl j { c.sl j with st := 1 }))[j * 21 + k]? = some v := fun k v h => slV_at hjn (by rw [upd_at]; exact h)
  refine ⟨_, u 4 _ rfl, _, u 5 _ rfl, _, u 6 _ rfl, _, u 7 _ rfl, _, u 8 _ rfl, _, u 9 _ rfl, _, u 10 _ rfl, _, u 11 _ rfl, ?_⟩
  exact ret_rv (vs := [.agg (dV (c.sl j).d).toArray, .int .i64 0]) r21 rfl rfl fun W hW => fin _ { c with sl := upd c.sl j { c.sl j with st := 1 } } W [_] hv.symm hc.symm hW
 ·dsimp only [zq8t, caF, List.cons_append, List.nil_append]
  (refine Y_go 600 ?_; dsimp only [Y_k, zq4u, zq8o, zq6n, Nat.reduceBEq, zq6k, YK, zq8t, zq5j, zq2f, nth, zq2e, zq6l, zq9i, normF, zq6m, zq86, zq87, zq8c, zq9y, t21n3, T21n3, zq9r, zq9q, zq50, zq8p, zq6q, zq04, zq92, zq9b, zq0i, zq9d, zq9s, zq6h, zq8x, YC, t21n0, T21n0, zq5g, List.map, zq22, zq25, zq5d, zq7t, List.length_cons, List.length_nil, Nat.reduceAdd, zq8l, zq73, zq8m, zq8k, zq0a, zq1x, zq1t, dropL, takeL, zq1r, splice, setn, zq8s, zq89, zq9x, zq9p, t21n2, T21n2, zq5i])
  refine ⟨fun _ => ?_, fun h => absurd h (by decide)⟩
  exact ret_rv (vs := [.agg (dV zF).toArray, .int .i64 20]) r21 rfl rfl fun W hW => fin _ c W [_] (by unfold demV; rw [hno]; rfl) (by unfold demC; rw [hno]) hW
theorem promote22 {E0 : Env} {W : World} (gc gs : Nat) (c : Ca) (ok : CaOk c) (line : Int) (d : Nat → Int) (hW : HeapOk E0 (caF gc gs c) W) :
  CallsV Try.prog 22 [.pointer (some ⟨gc, 0, none⟩), .int .i64 line, .agg (dV d).toArray] W fun v W' => v = .int .i64 (inE c line 1) ∧ HeapOk E0 (caF gc gs (proC c line d)) W' := by
 obtain ⟨b0, N, st, nt0, mk0⟩ := E0
 refine calls_lent (keep := K22) (nt := 25) (svs := [.ptr 0 0, .val (.int .i64 line), .agg [.val (.int .u64 (d 0)), .val (.int .u64 (d 1)), .val (.int .u64 (d 2)), .val (.int .u64 (d 3)), .val (.int .u64 (d 4)), .val (.int .u64 (d 5)), .val (.int .u64 (d 6)), .val (.int .u64 (d 7))]]) Try.func22 x22 n22 (by simp) hW (by simp [IsL, Is, caF, blk, nth, SO.blk, dV, enV]) fun R hR => ?_
 have fin : ∀ (v : Value) (c' : Ca) (W : World) (r : List SO), v = .int .i64 (inE c line 1) → c' = proC c line d → HeapOk ⟨b0, N, st, 25, []⟩ (caF gc gs c' ++ r) W → R v W := fun v c' W r hv hc hW => hR _ _ ⟨hv, by rw [← hc]; exact HeapOk.env (E := ⟨b0, N, st, 25, []⟩) (E' := ⟨b0, N, st, nt0, mk0⟩) rfl rfl rfl (hW.pre (caF_pre gc gs c'))⟩
 (refine Y_go 600 ?_; dsimp only [X22, numF, Nat.reduceAdd, caF, zq9r, zq9q, Y_k, zq5f, zq8o, zq6n, Nat.reduceBEq, zq6l, zq6k, zq7t, List.length_cons, List.length_nil, zq8l, zq73, zq8m, zq8k, zq0a, zq1z, List.cons_append, List.nil_append, YK, zq8t, zq4u, zq8p, zq6q, zq9i, normF, zq6m, zq86, zq87, zq8c, zq88, zq9y, t22n3, T22n3, zq9j])
 intro gb
 refine call_in gc gs c ok line 1 [_] rfl rfl (fun j hj => ?_) (fun hno => ?_)
 ·have hjn := inC_lt ok hj
  have hv : inE c line 1 = 0 := by unfold inE; rw [hj]
  have hc : proC c line d = { c with sl := upd c.sl j { c.sl j with st := 2, d := d } } := by unfold proC; rw [hj]
  dsimp only [zq8t, caF, List.cons_append, List.nil_append]
  (refine Y_go 600 ?_; dsimp only [Y_k, zq4u, zq8o, zq6n, Nat.reduceBEq, zq6k, YK, zq8t, zq5j, zq2f, nth, zq2e, zq6l, zq9i, normF, zq6m, zq86, zq87, zq8c, zq88, zq9y, t22n2, T22n2, zq9r, zq9q, zq50, zq8p, zq6q, zq04, zq92, zq9b, zq0i, zq9c, zq9s, zq6h, zq8x, YC, t22n0, T22n0, zq5c, zq1o, zq1k, List.length_cons, List.length_nil, Nat.reduceAdd, dropL, takeL, zq19, zq17, zq5i, zq29, zq5a, zq14, zq5d, zq7u, zq73, zq0a, zq1x, zq1u, denL, den, zq1s, splice, setn, zq8s, zq9m, zq9p, t22n1, T22n1, zq8a, zq9x])
  refine ⟨fun _ => ⟨by rw [slV_len]; omega, ?_⟩, fun h => absurd h (by decide)⟩
  (refine still_y (by dsimp only [zq6n, Nat.reduceBEq, zq6l, zq6k, zq5c, zq8o, zq1o, nth, zq1k, List.length_cons, List.length_nil, Nat.reduceAdd, dropL, takeL, zq19, zq17]; exact ⟨rfl, det_of_den rfl⟩) ?_; refine Y_go 600 ?_; dsimp only [Y_k, zq5i, zq8o, zq6n, Nat.reduceBEq, zq6l, zq6k, zq29, YK, zq8t, zq5a, zq14, zq5d, zq7t, List.length_cons, List.length_nil, Nat.reduceAdd, zq8l, zq73, zq8m, zq8k, zq0a, zq1x, nth, zq1u, denL, den, zq1s, splice, setn, zq8s, zq9i, normF, zq89, zq87, zq8c, zq88, zq9y, t22n1, T22n1, zq9r, zq9q, zq4u, zq9x])
  have e1 := slV_setn (f := c.sl) (u := .int .i64 2) hjn (k := 1) (by decide) (e := { c.sl j with st := 2 }) rfl
  have e2 := slV_splice (n := c.n) (i := j) (k := 4) (f := upd c.sl j { c.sl j with st := 2 }) (us := dV d) (e := { c.sl j with st := 2, d := d }) hjn (by simp [dV]) (by rw [upd_at]; rfl)
  refine ⟨by rw [e1, slV_len]; omega, ?_⟩
  rw [← e1, upd_upd] at e2
  refine ret_rule (vs := [.int .i64 0]) r22 rfl rfl fun W hW => fin _ { c with sl := upd c.sl j { c.sl j with st := 2, d := d } } W [.cells gb 42 [.val (.int .u64 (d 0)), .val (.int .u64 (d 1)), .val (.int .u64 (d 2)), .val (.int .u64 (d 3)), .val (.int .u64 (d 4)), .val (.int .u64 (d 5)), .val (.int .u64 (d 6)), .val (.int .u64 (d 7))]] (by rw [hv]; rfl) hc.symm ?_
  show HeapOk _ ([.cells gc 66 [.val (.int .i64 c.sets), .val (.int .i64 c.ways), .slc 1 0 c.n c.n, .val (.int .i64 c.uses)], .row gs 44 (slV c.n (upd c.sl j { c.sl j with st := 2, d := d }))] ++ _) W
  rw [← e2]
  exact hW
 ·dsimp only [zq8t, caF, List.cons_append, List.nil_append]
  (refine Y_go 600 ?_; dsimp only [Y_k, zq4u, zq8o, zq6n, Nat.reduceBEq, zq6k, YK, zq8t, zq5j, zq2f, nth, zq2e, zq6l, zq9i, normF, zq6m, zq86, zq87, zq8c, zq88, zq9y, t22n2, T22n2, zq9r, zq9q, zq50, zq8p, zq6q, zq04, zq92, zq9b, zq0i, zq9c, zq9s, zq6h, zq8x, YC, t22n0, T22n0, zq5c, zq1o, zq1k, List.length_cons, List.length_nil, Nat.reduceAdd, dropL, takeL, zq19, zq17, zq5i, zq9p, t22n1, T22n1, zq8a, zq9x])
  refine ⟨fun h => absurd h (by decide), fun _ => ?_⟩
  exact ret_rule (vs := [.int .i64 20]) r22 rfl rfl fun W hW => fin _ c W [_] (by unfold inE; rw [hno]; rfl) (by unfold proC; rw [hno]) hW
theorem find20 {E0 : Env} {W : World} (gc gs : Nat) (c : Ca) (ok : CaOk c) (line : Int) (hW : HeapOk E0 (caF gc gs c) W) :
  CallsV Try.prog 20 [.pointer (some ⟨gc, 0, none⟩), .int .i64 line] W fun v W' => v = findV c line ∧ HeapOk E0 (caF gc gs (c)) W' := by
 obtain ⟨b0, N, st, nt0, mk0⟩ := E0
 refine calls_lent (keep := K20) (nt := 16) (svs := [.ptr 0 0, .val (.int .i64 line)]) Try.func20 x20 n20 (by simp) hW (by simp [IsL, Is, caF, blk, nth, SO.blk, dV, enV]) fun R hR => ?_
 have fin : ∀ (v : Value) (c' : Ca) (W : World) (r : List SO), v = findV c line → c' = c → HeapOk ⟨b0, N, st, 16, []⟩ (caF gc gs c' ++ r) W → R v W := fun v c' W r hv hc hW => hR _ _ ⟨hv, by rw [← hc]; exact HeapOk.env (E := ⟨b0, N, st, 16, []⟩) (E' := ⟨b0, N, st, nt0, mk0⟩) rfl rfl rfl (hW.pre (caF_pre gc gs c'))⟩
 (refine Y_go 600 ?_; dsimp only [X20, numF, Nat.reduceAdd, caF, zq9r, zq9q, Y_k, zq5e, List.length_cons, List.length_nil, List.map, zq6q, zq6p, List.cons_append, List.nil_append, YK, zq8t, zq4u, zq8p, zq9i, normF, zq6n, Nat.reduceBEq, zq6l, zq6k, zq6m, zq86, zq8a, zq8c, zq87, zq9y, t20n3, T20n3, zq8o, zq9j])
 intro gr
 refine call_at gc gs c ok line [_] rfl rfl (fun j hj => ?_) (fun hno => ?_)
 ·have hjn := (atC_lt ok hj).1
  dsimp only [zq8t, caF, List.cons_append, List.nil_append]
  (refine Y_go 600 ?_; dsimp only [Y_k, zq4u, zq8o, zq6n, Nat.reduceBEq, zq6k, YK, zq8t, zq9i, normF, zq6l, zq6m, zq86, zq8c, zq8a, zq87, zq9y, t20n2, T20n2, zq9r, zq9q, zq5t, zq3s, zq3q, zq9s, zq6h, zq8x, YC, t20n0, T20n0, zq5g, List.map, zq6q, zq6p, zq22, zq25, zq5d, zq7t, List.length_cons, List.length_nil, Nat.reduceAdd, zq8l, zq73, zq8m, zq7i, zq8k, zq0a, zq1x, nth, zq1t, dropL, takeL, zq1r, splice, setn, zq8s, zq8p, zq89, zq9x, zq9p, t20n1, T20n1, zq5i, zq29, zq5c, zq1o, zq1l, zq1c, List.nil_append, List.cons_append, zq1d, zq1b, zq17, zq7g, zq6o])
  refine ⟨fun h => absurd h (by decide), fun _ => ⟨_, slV_atm 0 hjn (by omega) rfl, _, slV_atm 1 hjn (by omega) rfl, _, slV_atm 2 hjn (by omega) rfl, _, slV_atm 3 hjn (by omega) rfl, _, slV_atm 4 hjn (by omega) rfl, _, slV_atm 5 hjn (by omega) rfl, _, slV_atm 6 hjn (by omega) rfl, _, slV_atm 7 hjn (by omega) rfl, _, slV_atm 8 hjn (by omega) rfl, _, slV_atm 9 hjn (by omega) rfl, _, slV_atm 10 hjn (by omega) rfl, _, slV_atm 11 hjn (by omega) rfl, _, slV_atm 12 hjn (by omega) rfl, _, slV_atm 13 hjn (by omega) rfl, _, slV_atm 14 hjn (by omega) rfl, _, slV_atm 15 hjn (by omega) rfl, _, slV_atm 16 hjn (by omega) rfl, _, slV_atm 17 hjn (by omega) rfl, _, slV_atm 18 hjn (by omega) rfl, _, slV_atm 19 hjn (by omega) rfl, _, slV_atm 20 hjn (by omega) rfl, ?_⟩⟩
  exact ret_rv (vs := [.agg (enV (c.sl j)).toArray, .bool true]) r20 rfl rfl fun W hW => fin _ c W [_] (by unfold findV; rw [hj]; rfl) rfl hW
 ·dsimp only [zq8t, caF, List.cons_append, List.nil_append]
  (refine Y_go 600 ?_; dsimp only [Y_k, zq4u, zq8o, zq6n, Nat.reduceBEq, zq6k, YK, zq8t, zq9i, normF, zq6l, zq6m, zq86, zq87, zq8a, zq8c, zq9y, t20n2, T20n2, zq9r, zq9q, zq5t, zq3u, zq3q, zq9s, zq6h, zq8x, YC, t20n0, T20n0, zq5g, List.map, zq6q, zq6p, zq22, zq25, zq5d, zq7t, List.length_cons, List.length_nil, Nat.reduceAdd, zq8l, zq73, zq8m, zq7i, zq8k, zq0a, zq1x, nth, zq1t, dropL, takeL, zq1r, splice, setn, zq8s, zq8p, zq89, zq9x, zq9p, t20n1, T20n1, zq5i])
  refine ⟨fun _ => ?_, fun h => absurd h (by decide)⟩
  exact ret_rv (vs := [.agg (enV zE).toArray, .bool false]) r20 rfl rfl fun W hW => fin _ c W [_] (by unfold findV; rw [hno]; rfl) rfl hW
end Go.Proofs.Ytimmobbginjkfaa
namespace Go.Proofs.Ytimmobbginjkfaa
open Go Go.Sx Go.Ca
set_option maxRecDepth 100000
theorem drop23 {E0 : Env} {W : World} (gc gs : Nat) (c : Ca) (ok : CaOk c) (line : Int) (hW : HeapOk E0 (caF gc gs c) W) :
  CallsV Try.prog 23 [.pointer (some ⟨gc, 0, none⟩), .int .i64 line] W fun v W' => v = dropV c line ∧ HeapOk E0 (caF gc gs (dropC c line)) W' := by
 obtain ⟨b0, N, st, nt0, mk0⟩ := E0
 refine calls_lent (keep := K23) (nt := 26) (svs := [.ptr 0 0, .val (.int .i64 line)]) Try.func23 x23 n23 (by simp) hW (by simp [IsL, Is, caF, blk, nth, SO.blk, dV, enV]) fun R hR => ?_
 have fin : ∀ (v : Value) (c' : Ca) (W : World) (r : List SO), v = dropV c line → c' = dropC c line → HeapOk ⟨b0, N, st, 26, []⟩ (caF gc gs c' ++ r) W → R v W := fun v c' W r hv hc hW => hR _ _ ⟨hv, by rw [← hc]; exact HeapOk.env (E := ⟨b0, N, st, 26, []⟩) (E' := ⟨b0, N, st, nt0, mk0⟩) rfl rfl rfl (hW.pre (caF_pre gc gs c'))⟩
 (refine Y_go 600 ?_; dsimp only [X23, numF, Nat.reduceAdd, caF, zq9r, zq9q, Y_k, zq5e, List.length_cons, List.length_nil, List.map, zq6q, zq6p, List.cons_append, List.nil_append, YK, zq8t, zq4u, zq8p, zq9i, normF, zq6n, Nat.reduceBEq, zq6l, zq6k, zq6m, zq86, zq87, zq8c, zq9y, t23n5, T23n5, zq8o, zq9j])
 intro gr
 refine call_in gc gs c ok line 0 [_] rfl rfl (fun j hj => ?_) (fun hno => ?_)
 ·have hjn := inC_lt ok hj
  have hv : dropV c line = .tuple #[.agg (enV (c.sl j)).toArray, .int .i64 0] := by unfold dropV; rw [hj]
  have hc : dropC c line = { c with sl := upd c.sl j zE } := by unfold dropC; rw [hj]
  dsimp only [zq8t, caF, List.cons_append, List.nil_append]
  (refine Y_go 600 ?_; dsimp only [Y_k, zq4u, zq8o, zq6n, Nat.reduceBEq, zq6k, YK, zq8t, zq5j, zq2f, nth, zq2e, zq6l, zq9i, normF, zq6m, zq86, zq87, zq8c, zq9y, t23n4, T23n4, zq9r, zq9q, zq50, zq8p, zq6q, zq04, zq92, zq9b, zq0i, zq9d, zq9s, zq6h, zq8x, YC, t23n0, T23n0, zq5g, List.map, zq6p, zq22, zq25, zq5d, zq7t, List.length_cons, List.length_nil, Nat.reduceAdd, zq8l, zq73, zq8m, zq7i, zq8k, zq0a, zq1x, zq1t, dropL, takeL, zq1r, splice, setn, zq8s, zq89, zq9x, zq9p, t23n3, T23n3, zq5i, zq29, zq5c, zq1o, zq1l, zq1c, List.nil_append, List.cons_append, zq1d, zq1b, zq17, zq5e, zq7g, zq8a, t23n2, T23n2, zq1u, denL, den, zq1s, t23n1, T23n1, zq1k, zq19])
  refine ⟨fun h => absurd h (by decide), fun _ => ⟨_, slV_atm 0 hjn (by omega) rfl, _, slV_atm 1 hjn (by omega) rfl, _, slV_atm 2 hjn (by omega) rfl, _, slV_atm 3 hjn (by omega) rfl, _, slV_atm 4 hjn (by omega) rfl, _, slV_atm 5 hjn (by omega) rfl, _, slV_atm 6 hjn (by omega) rfl, _, slV_atm 7 hjn (by omega) rfl, _, slV_atm 8 hjn (by omega) rfl, _, slV_atm 9 hjn (by omega) rfl, _, slV_atm 10 hjn (by omega) rfl, _, slV_atm 11 hjn (by omega) rfl, _, slV_atm 12 hjn (by omega) rfl, _, slV_atm 13 hjn (by omega) rfl, _, slV_atm 14 hjn (by omega) rfl, _, slV_atm 15 hjn (by omega) rfl, _, slV_atm 16 hjn (by omega) rfl, _, slV_atm 17 hjn (by omega) rfl, _, slV_atm 18 hjn (by omega) rfl, _, slV_atm 19 hjn (by omega) rfl, _, slV_atm 20 hjn (by omega) rfl, fun g2 => ⟨by rw [slV_len]; omega, ?_⟩⟩⟩
  have hl : ([.int .i64 0, .int .i64 0, .bool false, .bool false, .int .u64 0, .int .u64 0, .int .u64 0, .int .u64 0, .int .u64 0, .int .u64 0, .int .u64 0, .int .u64 0, .int .u64 0, .int .u64 0, .int .u64 0, .int .u64 0, .int .u64 0, .int .u64 0, .int .u64 0, .int .u64 0, .int .i64 0] : List Value).length = (enV (c.sl j)).length := by simp [enV]
  have he := splice_all (enV (c.sl j)) [.int .i64 0, .int .i64 0, .bool false, .bool false, .int .u64 0, .int .u64 0, .int .u64 0, .int .u64 0, .int .u64 0, .int .u64 0, .int .u64 0, .int .u64 0, .int .u64 0, .int .u64 0, .int .u64 0, .int .u64 0, .int .u64 0, .int .u64 0, .int .u64 0, .int .u64 0, .int .i64 0] hl
  have e2 := slV_splice (n := c.n) (i := j) (k := 0) (f := c.sl) (us := [.int .i64 0, .int .i64 0, .bool false, .bool false, .int .u64 0, .int .u64 0, .int .u64 0, .int .u64 0, .int .u64 0, .int .u64 0, .int .u64 0, .int .u64 0, .int .u64 0, .int .u64 0, .int .u64 0, .int .u64 0, .int .u64 0, .int .u64 0, .int .u64 0, .int .u64 0, .int .i64 0]) (e := zE) hjn (by simp) he
  simp only [Nat.add_zero, splice] at e2
  rw [e2]
  exact ret_rv (vs := [.agg (enV (c.sl j)).toArray, .int .i64 0]) r23 rfl rfl fun W hW => fin _ { c with sl := upd c.sl j zE } W [_, _] hv.symm hc.symm hW
 ·dsimp only [zq8t, caF, List.cons_append, List.nil_append]
  (refine Y_go 600 ?_; dsimp only [Y_k, zq4u, zq8o, zq6n, Nat.reduceBEq, zq6k, YK, zq8t, zq5j, zq2f, nth, zq2e, zq6l, zq9i, normF, zq6m, zq86, zq87, zq8c, zq9y, t23n4, T23n4, zq9r, zq9q, zq50, zq8p, zq6q, zq04, zq92, zq9b, zq0i, zq9d, zq9s, zq6h, zq8x, YC, t23n0, T23n0, zq5g, List.map, zq6p, zq22, zq25, zq5d, zq7t, List.length_cons, List.length_nil, Nat.reduceAdd, zq8l, zq73, zq8m, zq7i, zq8k, zq0a, zq1x, zq1t, dropL, takeL, zq1r, splice, setn, zq8s, zq89, zq9x, zq9p, t23n3, T23n3, zq5i])
  refine ⟨fun _ => ?_, fun h => absurd h (by decide)⟩
  exact ret_rv (vs := [.agg (enV zE).toArray, .int .i64 20]) r23 rfl rfl fun W hW => fin _ c W [_] (by unfold dropV; rw [hno]; rfl) (by unfold dropC; rw [hno]) hW
end Go.Proofs.Ytimmobbginjkfaa
