/- CachePlays: a step of both (printed by mkcp7.py). -/
import Derived.Test.YtimmobbginjkfaaCpW6
import Derived.Test.YtimmobbginjkfaaCpLaw2
import Derived.Test.YtimmobbginjkfaaCaW3
import Derived.Test.YtimmobbginjkfaaCaW4
import Derived.Test.YtimmobbginjkfaaCaCodeL
set_option linter.unusedSimpArgs false
set_option linter.unusedVariables false
set_option linter.unnecessarySimpa false
namespace Go.Proofs.Ytimmobbginjkfaa
open Go Go.Sx Go.Ca
set_option maxRecDepth 100000
def bothF (gc gs gw : Nat) (c : Ca) (v : Nat) (A : Option Addr) (cc : Nat) (D : Dc) : List SO := caF gc gs c ++ (dcS 2 gw v A cc D ++ [])
theorem both_scp (gc gs gw : Nat) (c : Ca) (v : Nat) (A : Option Addr) (cc : Nat) (D : Dc) : (bothF gc gs gw c v A cc D).all (scpO 4) = true := rfl
theorem both_pre (gc gs gw : Nat) (c : Ca) (v : Nat) (A : Option Addr) (cc : Nat) (D : Dc) : ∀ e ∈ bothF gc gs gw c v A cc D, scpO (bothF gc gs gw c v A cc D).length e = true := fun e he => List.all_eq_true.1 (both_scp gc gs gw c v A cc D) e he
theorem word_form (c : Ca) (a : Int) : ∃ n f, wordV c a = .tuple #[.int .u64 n, .int .i64 f] := by
 unfold wordV
 repeat' split
 all_goals exact ⟨_, _, rfl⟩
theorem put_form (c : Ca) (a : Int) : ∃ f, putV c a = .int .i64 f := by
 unfold putV
 repeat' split
 all_goals exact ⟨_, rfl⟩
theorem dem_form (c : Ca) (a : Int) : ∃ d f, demV c a = .tuple #[.agg (dV d).toArray, .int .i64 f] := by
 unfold demV
 split
 all_goals exact ⟨_, _, rfl⟩
theorem drop_form (c : Ca) (a : Int) : ∃ e f, dropV c a = .tuple #[.agg (enV e).toArray, .int .i64 f] := by
 unfold dropV
 split
 all_goals exact ⟨_, _, rfl⟩
theorem find_form (c : Ca) (a : Int) : ∃ e b, findV c a = .tuple #[.agg (enV e).toArray, .bool b] := by
 unfold findV
 split
 all_goals exact ⟨_, _, rfl⟩
theorem is_en2 (H : List SO) (e : En) (v : Value) : Is H (.tup [.agg [.val (.int .i64 e.line), .val (.int .i64 e.st), .val (.bool e.rd), .val (.bool e.wr), .val (.int .u64 (e.d 0)), .val (.int .u64 (e.d 1)), .val (.int .u64 (e.d 2)), .val (.int .u64 (e.d 3)), .val (.int .u64 (e.d 4)), .val (.int .u64 (e.d 5)), .val (.int .u64 (e.d 6)), .val (.int .u64 (e.d 7)), .val (.int .u64 (e.o 0)), .val (.int .u64 (e.o 1)), .val (.int .u64 (e.o 2)), .val (.int .u64 (e.o 3)), .val (.int .u64 (e.o 4)), .val (.int .u64 (e.o 5)), .val (.int .u64 (e.o 6)), .val (.int .u64 (e.o 7)), .val (.int .i64 e.used)], .val v]) (.tuple #[.agg (enV e).toArray, v]) := by
 simp only [Is, IsL]; exact ⟨_, ⟨_, _, enSV_is H e, ⟨_, _, rfl, rfl, rfl⟩, rfl⟩, rfl⟩
theorem is_en3 (H : List SO) (e : En) (v u : Value) : Is H (.tup [.agg [.val (.int .i64 e.line), .val (.int .i64 e.st), .val (.bool e.rd), .val (.bool e.wr), .val (.int .u64 (e.d 0)), .val (.int .u64 (e.d 1)), .val (.int .u64 (e.d 2)), .val (.int .u64 (e.d 3)), .val (.int .u64 (e.d 4)), .val (.int .u64 (e.d 5)), .val (.int .u64 (e.d 6)), .val (.int .u64 (e.d 7)), .val (.int .u64 (e.o 0)), .val (.int .u64 (e.o 1)), .val (.int .u64 (e.o 2)), .val (.int .u64 (e.o 3)), .val (.int .u64 (e.o 4)), .val (.int .u64 (e.o 5)), .val (.int .u64 (e.o 6)), .val (.int .u64 (e.o 7)), .val (.int .i64 e.used)], .val v, .val u]) (.tuple #[.agg (enV e).toArray, v, u]) := by
 simp only [Is, IsL]; exact ⟨_, ⟨_, _, enSV_is H e, ⟨_, _, rfl, ⟨_, _, rfl, rfl, rfl⟩, rfl⟩, rfl⟩, rfl⟩
theorem is_d2 (H : List SO) (d : Nat → Int) (v : Value) : Is H (.tup [.agg [.val (.int .u64 (d 0)), .val (.int .u64 (d 1)), .val (.int .u64 (d 2)), .val (.int .u64 (d 3)), .val (.int .u64 (d 4)), .val (.int .u64 (d 5)), .val (.int .u64 (d 6)), .val (.int .u64 (d 7))], .val v]) (.tuple #[.agg (dV d).toArray, v]) := by
 simp only [Is, IsL]; exact ⟨_, ⟨_, _, ⟨dV d, by simp [dV, IsL, Is], rfl⟩, ⟨_, _, rfl, rfl, rfl⟩, rfl⟩, rfl⟩
theorem step17 {E0 : Env} {W : World} (gc gs gw : Nat) (c : Ca) (A : Option Addr) (cc : Nat) (D : Dc) (x : Sp) (ok : CaOk c) (iv : Inv c) (s : St c) (r : Rel c D) (hu : c.uses ≤ 900000) (hW : HeapOk E0 (bothF gc gs gw c 0 A cc D) W) :
  CallsV Try.prog 17 [.pointer (some ⟨gc, 0, none⟩), .pointer (some ⟨gw, 0, none⟩), .agg (spV x).toArray] W fun v W' => v = .bool true ∧ ∃ v' A' cc', HeapOk E0 (bothF gc gs gw (stepC c x) v' A' cc' (stepD D x)) W' := by
 obtain ⟨b0, N, st, nt0, mk0⟩ := E0
 have hlen := rel_len ok r
 have hu0 := ok.u0
 refine calls_lent (keep := K17) (nt := 241) (svs := [.ptr 0 0, .ptr 2 0, .agg [.val (.int .i64 x.kind), .val (.int .i64 x.n), .val (.int .i64 x.state), .val (.bool x.write), .val (.int .u64 x.v), .val (.int .u64 (x.l 0)), .val (.int .u64 (x.l 1)), .val (.int .u64 (x.l 2)), .val (.int .u64 (x.l 3)), .val (.int .u64 (x.l 4)), .val (.int .u64 (x.l 5)), .val (.int .u64 (x.l 6)), .val (.int .u64 (x.l 7))]]) Try.func17 x17 n17 (by simp) hW (by simp [IsL, Is, bothF, caF, dcS, blk, nth, SO.blk, spV]) fun R hR => ?_
 have fin : ∀ (v : Value) (c1 : Ca) (D1 : Dc) (W : World) (q : List SO) (vv : Nat) (A' : Option Addr) (cc' : Nat), v = .bool true → c1 = stepC c x → D1 = stepD D x → HeapOk ⟨b0, N, st, 241, []⟩ (bothF gc gs gw c1 vv A' cc' D1 ++ q) W → R v W := fun v c1 D1 W q vv A' cc' hv hc hd hW => hR _ _ ⟨hv, vv, A', cc', by rw [← hc, ← hd]; exact HeapOk.env (E := ⟨b0, N, st, 241, []⟩) (E' := ⟨b0, N, st, nt0, mk0⟩) rfl rfl rfl (hW.pre (both_pre gc gs gw c1 vv A' cc' D1))⟩
 (refine Y_go 600 ?_; dsimp only [X17, numF, Nat.reduceAdd, bothF, caF, dcS, List.cons_append, List.nil_append, zq9r, zq9q, Y_k, zq5f, zq8o, zq6n, Nat.reduceBEq, zq6l, zq6k, zq7t, List.length_cons, List.length_nil, zq8l, zq73, zq8m, zq7g, zq8k, zq0a, zq1z, YK, zq8t, zq4u, zq8p, zq6p, zq9i, normF, zq6m, zq86, zq8a, zq8c, zq88, zq9y, t17n41, T17n41, zq5a, zq14, Nat.add_zero, zq5c, zq1o, nth, zq1k, dropL, takeL, zq19, zq18, zq87, t17n39, T17n39, zq9t, zq50, zq6q, zq04, zq92, zq9b, zq0i, zq9c, zq9s, zq6h, zq8x, YC, t17n2, T17n2, zq17, zq9j, t17n38, T17n38, t17n5, T17n5, t17n37, T17n37, t17n8, T17n8, t17n36, T17n36, t17n11, T17n11, t17n35, T17n35, t17n14, T17n14, t17n34, T17n34, t17n17, T17n17, t17n33, T17n33, t17n20, T17n20, t17n32, T17n32, t17n23, T17n23, t17n31, T17n31, t17n26, T17n26, t17n30, T17n30, t17n29, T17n29, zq9p, zqa1, t17n40, T17n40, zq6o, zq89, zq9x])
 intro g
 have hsx : stepC c x = if x.kind = 0 then fillC c x.n x.state x.l else if x.kind = 1 then wordC c x.n else if x.kind = 2 then putC c x.n x.v else if x.kind = 3 then markC c x.n x.write else if x.kind = 4 then demC c x.n else if x.kind = 5 then proC c x.n x.l else if x.kind = 6 then dropC c x.n else if x.kind = 7 then comC c else if x.kind = 8 then disC c else c := rfl
 have hdx : stepD D x = if x.kind = 0 then fillD D x.n x.state x.l else if x.kind = 1 then wordD D x.n else if x.kind = 2 then putDD D x.n x.v else if x.kind = 3 then markD D x.n x.write else if x.kind = 4 then demD D x.n else if x.kind = 5 then proD D x.n x.l else if x.kind = 6 then dropD D x.n else if x.kind = 7 then comD D else if x.kind = 8 then disD D else D := rfl
 have hdu : 0 ≤ D.uses ∧ D.uses ≤ 1000000 := by rw [r.u]; omega
 have hds : 0 < D.sets := by rw [r.s]; have := ok.s1; omega
 refine ⟨fun q0 => ?_, fun q0 => ⟨fun q1 => ?_, fun q1 => ⟨fun q2 => ?_, fun q2 => ⟨fun q3 => ?_, fun q3 => ⟨fun q4 => ?_, fun q4 => ⟨fun q5 => ?_, fun q5 => ⟨fun q6 => ?_, fun q6 => ⟨fun q7 => ?_, fun q7 => ⟨fun q8 => ?_, fun q8 => ⟨fun q9 => ?_, fun q9 => ?_⟩⟩⟩⟩⟩⟩⟩⟩⟩⟩
 ·have hk : x.kind = 0 := by simpa using q0
  have hcp : fillC c x.n x.state x.l = stepC c x := by rw [hsx, hk]; rfl
  have hdp : fillD D x.n x.state x.l = stepD D x := by rw [hdx, hk]; rfl
  have hv : fillV c x.n x.state = fillDV D x.n x.state := by unfold fillV fillDV; rw [(fill_rel ok iv s r x.n x.state x.l).1]
  obtain ⟨e, b, f, hf⟩ : ∃ e b f, fillV c x.n x.state = .tuple #[.agg (enV e).toArray, .bool b, .int .i64 f] := ⟨_, _, _, rfl⟩
  refine call_ca gc gs c (fillC c x.n x.state x.l) (.tuple #[.agg (enV e).toArray, .bool b, .int .i64 f]) (.tup [.agg [.val (.int .i64 e.line), .val (.int .i64 e.st), .val (.bool e.rd), .val (.bool e.wr), .val (.int .u64 (e.d 0)), .val (.int .u64 (e.d 1)), .val (.int .u64 (e.d 2)), .val (.int .u64 (e.d 3)), .val (.int .u64 (e.d 4)), .val (.int .u64 (e.d 5)), .val (.int .u64 (e.d 6)), .val (.int .u64 (e.d 7)), .val (.int .u64 (e.o 0)), .val (.int .u64 (e.o 1)), .val (.int .u64 (e.o 2)), .val (.int .u64 (e.o 3)), .val (.int .u64 (e.o 4)), .val (.int .u64 (e.o 5)), .val (.int .u64 (e.o 6)), .val (.int .u64 (e.o 7)), .val (.int .i64 e.used)], .val (.bool b), .val (.int .i64 f)]) [_, _, _] rfl rfl (vs := [.pointer (some ⟨gc, 0, none⟩), .int .i64 x.n, .int .i64 x.state, .agg (dV x.l).toArray]) (fun W _ hh => by rw [← hf]; exact fill19 gc gs c ok x.n x.state x.l hh) (fun H => is_en3 H e _ _) ?_
  dsimp only [zq8t, caF, List.cons_append, List.nil_append]
  (refine Y_go 600 ?_; dsimp only [Y_k, zq4u, zq8o, zq6n, Nat.reduceBEq, zq6k, YK, zq8t, zq5j, zq2f, nth, zq2e, zq6l, zq5e, List.length_cons, List.length_nil, Nat.reduceAdd, List.map, zq6q, zq6p, List.cons_append, List.nil_append, zq5d, zq7t, zq8l, zq73, zq8m, zq7g, zq8k, zq0a, zq1x, zq1t, dropL, takeL, zq1r, splice, setn, zq8s, zq9i, normF, zq6m, zq86, zq89, zq87, zq8c, zq8a, zq88, zq9y, t17n1, T17n1, zq9r, zq9q, zq5a, zq14, zq5c, zq1o, zq1k, zq19, zq18, zq17, zq9j])
  intro ga
  refine call_dc (caF gc gs (fillC c x.n x.state x.l)) [_, _] gw 0 1 A cc D (fillD D x.n x.state x.l) (.tuple #[.agg (enV e).toArray, .bool b, .int .i64 f]) (.tup [.agg [.val (.int .i64 e.line), .val (.int .i64 e.st), .val (.bool e.rd), .val (.bool e.wr), .val (.int .u64 (e.d 0)), .val (.int .u64 (e.d 1)), .val (.int .u64 (e.d 2)), .val (.int .u64 (e.d 3)), .val (.int .u64 (e.d 4)), .val (.int .u64 (e.d 5)), .val (.int .u64 (e.d 6)), .val (.int .u64 (e.d 7)), .val (.int .u64 (e.o 0)), .val (.int .u64 (e.o 1)), .val (.int .u64 (e.o 2)), .val (.int .u64 (e.o 3)), .val (.int .u64 (e.o 4)), .val (.int .u64 (e.o 5)), .val (.int .u64 (e.o 6)), .val (.int .u64 (e.o 7)), .val (.int .i64 e.used)], .val (.bool b), .val (.int .i64 f)]) rfl (vs := [.pointer (some ⟨gw, 0, none⟩), .int .i64 x.n, .int .i64 x.state, .agg (dV x.l).toArray]) rfl (by decide) (fun W _ hh => by rw [← hf, hv]; exact fill30 gw A cc D (by omega) hdu hds (r.nn iv) x.n x.state x.l hh) (fun H => is_en3 H e _ _) fun A' cc' => ?_
  dsimp only [zq8t, caF, List.length_cons, List.length_nil, Nat.reduceAdd, dcS, List.cons_append, List.nil_append]
  (refine Y_go 600 ?_; dsimp only [Y_k, zq4u, zq8o, zq6n, Nat.reduceBEq, zq6k, YK, zq8t, zq5j, zq2f, nth, zq2e, zq6l, zq5e, List.length_cons, List.length_nil, Nat.reduceAdd, List.map, zq6q, zq6p, List.cons_append, List.nil_append, zq5d, zq7t, zq8l, zq73, zq8m, zq7g, zq8k, zq0a, zq1x, zq1t, dropL, takeL, zq1r, splice, setn, zq8s, zq9i, normF, zq6m, zq86, zq89, zq87, zq8c, zq8a, zq88, zq9y, t17n0, T17n0, zq9r, zq9q, zq5c, zq1o, zq1k, zq19, zq17, zq5s, zq3o, eqSV, zq92, zq8w, zq96, zq3q, Y_gk, zq6d, YR, zq69, zq51, zq0k, zq4v, zq8p, zq0b, zq50, zq04, zq9b, zq0i, zq9c, zq9x, YS, zq6b, zq0c])
  intro g2
  refine ⟨fun _ => ⟨fun _ => ?_, fun h => absurd h (by simp)⟩, fun h => absurd h (by simp)⟩
  exact ret_rule (vs := [.bool (f == f)]) r17 rfl rfl fun W hW => fin _ _ _ W [_, _, _] 1 A' cc' (by simp [tupOf]) hcp hdp hW
 ·have hk : x.kind = 1 := by simpa using q1
  have hcp : wordC c x.n = stepC c x := by rw [hsx, hk]; rfl
  have hdp : wordD D x.n = stepD D x := by rw [hdx, hk]; rfl
  have hv := (word_rel ok iv s r x.n).1
  obtain ⟨n, f, hf⟩ := word_form c x.n
  refine call_ca gc gs c (wordC c x.n) (.tuple #[.int .u64 n, .int .i64 f]) (.tup [.val (.int .u64 n), .val (.int .i64 f)]) [_, _, _] rfl rfl (vs := [.pointer (some ⟨gc, 0, none⟩), .int .i64 x.n]) (fun W _ hh => by rw [← hf]; exact word14 gc gs c ok x.n hh) (fun H => by simp [Is, IsL]) ?_
  dsimp only [zq8t, caF, List.cons_append, List.nil_append]
  (refine Y_go 600 ?_; dsimp only [Y_k, zq4u, zq8o, zq6n, Nat.reduceBEq, zq6k, YK, zq8t, zq5j, zq2f, nth, zq2e, zq6l, zq9i, normF, zq6m, zq86, zq89, zq8a, zq87, zq8c, zq88, zq9y, t17n4, T17n4, zq9r, zq9q, zq5a, zq14, Nat.reduceAdd, zq5c, zq1o, zq1k, List.length_cons, List.length_nil, dropL, takeL, zq19, zq18, zq9j])
  refine call_dc (caF gc gs (wordC c x.n)) [_] gw 0 1 A cc D (wordD D x.n) (.tuple #[.int .u64 n, .int .i64 f]) (.tup [.val (.int .u64 n), .val (.int .i64 f)]) rfl (vs := [.pointer (some ⟨gw, 0, none⟩), .int .i64 x.n]) rfl (by decide) (fun W _ hh => by rw [← hf, hv]; exact word31 gw A cc D (by omega) hdu x.n hh) (fun H => by simp [Is, IsL]) fun A' cc' => ?_
  dsimp only [zq8t, caF, List.length_cons, List.length_nil, Nat.reduceAdd, dcS, List.cons_append, List.nil_append]
  (refine Y_go 600 ?_; dsimp only [Y_k, zq4u, zq8o, zq6n, Nat.reduceBEq, zq6k, YK, zq8t, zq5j, zq2f, nth, zq2e, zq6l, zq9i, normF, zq6m, zq86, zq89, zq8a, zq87, zq8c, zq88, zq9y, t17n3, T17n3, zq9r, zq9q, zq50, zq04, zq96, zq9b, zq0i, zq9c, Y_gk, zq6d, YR, zq69, zq92, zq4v, zq8p, zq6p, zq0b, zq9x, YS, zq6b, zq0c])
  refine ⟨fun _ => ?_, fun h => absurd h (by simp)⟩
  exact ret_rule (vs := [.bool (f == f)]) r17 rfl rfl fun W hW => fin _ _ _ W [_] 1 A' cc' (by simp [tupOf]) hcp hdp hW
 ·have hk : x.kind = 2 := by simpa using q2
  have hcp : putC c x.n x.v = stepC c x := by rw [hsx, hk]; rfl
  have hdp : putDD D x.n x.v = stepD D x := by rw [hdx, hk]; rfl
  have hv := (put_rel ok iv s r x.n x.v).1
  obtain ⟨f, hf⟩ := put_form c x.n
  refine call_ca gc gs c (putC c x.n x.v) (.int .i64 f) (.val (.int .i64 f)) [_, _, _] rfl rfl (vs := [.pointer (some ⟨gc, 0, none⟩), .int .i64 x.n, .int .u64 x.v]) (fun W _ hh => by rw [← hf]; exact put13 gc gs c ok x.n x.v hh) (fun H => by simp [Is]) ?_
  dsimp only [zq8t, caF, List.cons_append, List.nil_append]
  (refine Y_go 600 ?_; dsimp only [Y_k, zq4u, zq8o, zq6n, Nat.reduceBEq, zq6k, YK, zq8t, zq9i, normF, zq6l, zq6m, zq86, zq89, zq8a, zq87, zq8c, zq88, zq9y, t17n7, T17n7, zq9r, zq9q, zq5a, zq14, Nat.reduceAdd, zq5c, zq1o, nth, zq1k, List.length_cons, List.length_nil, dropL, takeL, zq19, zq18, zq9j])
  refine call_dc (caF gc gs (putC c x.n x.v)) [_] gw 0 1 A cc D (putDD D x.n x.v) (.int .i64 f) (.val (.int .i64 f)) rfl (vs := [.pointer (some ⟨gw, 0, none⟩), .int .i64 x.n, .int .u64 x.v]) rfl (by decide) (fun W _ hh => by rw [← hf, hv]; exact put32 gw A cc D (by omega) hdu x.n x.v hh) (fun H => by simp [Is]) fun A' cc' => ?_
  dsimp only [zq8t, caF, List.length_cons, List.length_nil, Nat.reduceAdd, dcS, List.cons_append, List.nil_append]
  (refine Y_go 600 ?_; dsimp only [Y_k, zq4u, zq8o, zq6n, Nat.reduceBEq, zq6k, YK, zq8t, zq9i, normF, zq6l, zq6m, zq86, zq89, zq8a, zq87, zq8c, zq88, zq9y, t17n6, T17n6, zq9r, zq9q, zq50, zq04, zq92, zq9b, zq0i, zq9c, zq9x])
  exact ret_rule (vs := [.bool (f == f)]) r17 rfl rfl fun W hW => fin _ _ _ W [_] 1 A' cc' (by simp [tupOf]) hcp hdp hW
 ·have hk : x.kind = 3 := by simpa using q3
  have hcp : markC c x.n x.write = stepC c x := by rw [hsx, hk]; rfl
  have hdp : markD D x.n x.write = stepD D x := by rw [hdx, hk]; rfl
  have hv := (mark_rel ok iv s r x.n x.write).1
  obtain ⟨f, hf⟩ : ∃ f, markV c x.n x.write = .int .i64 f := ⟨_, rfl⟩
  refine call_ca gc gs c (markC c x.n x.write) (.int .i64 f) (.val (.int .i64 f)) [_, _, _] rfl rfl (vs := [.pointer (some ⟨gc, 0, none⟩), .int .i64 x.n, .bool x.write]) (fun W _ hh => by rw [← hf]; exact mark12 gc gs c ok x.n x.write hh) (fun H => by simp [Is]) ?_
  dsimp only [zq8t, caF, List.cons_append, List.nil_append]
  (refine Y_go 600 ?_; dsimp only [Y_k, zq4u, zq8o, zq6n, Nat.reduceBEq, zq6k, YK, zq8t, zq9i, normF, zq6l, zq6m, zq86, zq89, zq8a, zq87, zq8c, zq88, zq9y, t17n10, T17n10, zq9r, zq9q, zq5a, zq14, Nat.reduceAdd, zq5c, zq1o, nth, zq1k, List.length_cons, List.length_nil, dropL, takeL, zq19, zq18, zq9j])
  refine call_dc (caF gc gs (markC c x.n x.write)) [_] gw 0 1 A cc D (markD D x.n x.write) (.int .i64 f) (.val (.int .i64 f)) rfl (vs := [.pointer (some ⟨gw, 0, none⟩), .int .i64 x.n, .bool x.write]) rfl (by decide) (fun W _ hh => by rw [← hf, hv]; exact mark33 gw A cc D (by omega) hdu x.n x.write hh) (fun H => by simp [Is]) fun A' cc' => ?_
  dsimp only [zq8t, caF, List.length_cons, List.length_nil, Nat.reduceAdd, dcS, List.cons_append, List.nil_append]
  (refine Y_go 600 ?_; dsimp only [Y_k, zq4u, zq8o, zq6n, Nat.reduceBEq, zq6k, YK, zq8t, zq9i, normF, zq6l, zq6m, zq86, zq89, zq8a, zq87, zq8c, zq88, zq9y, t17n9, T17n9, zq9r, zq9q, zq50, zq04, zq92, zq9b, zq0i, zq9c, zq9x])
  exact ret_rule (vs := [.bool (f == f)]) r17 rfl rfl fun W hW => fin _ _ _ W [_] 1 A' cc' (by simp [tupOf]) hcp hdp hW
 ·have hk : x.kind = 4 := by simpa using q4
  have hcp : demC c x.n = stepC c x := by rw [hsx, hk]; rfl
  have hdp : demD D x.n = stepD D x := by rw [hdx, hk]; rfl
  have hv := (dem_rel ok iv s r x.n).1
  obtain ⟨d, f, hf⟩ := dem_form c x.n
  refine call_ca gc gs c (demC c x.n) (.tuple #[.agg (dV d).toArray, .int .i64 f]) (.tup [.agg [.val (.int .u64 (d 0)), .val (.int .u64 (d 1)), .val (.int .u64 (d 2)), .val (.int .u64 (d 3)), .val (.int .u64 (d 4)), .val (.int .u64 (d 5)), .val (.int .u64 (d 6)), .val (.int .u64 (d 7))], .val (.int .i64 f)]) [_, _, _] rfl rfl (vs := [.pointer (some ⟨gc, 0, none⟩), .int .i64 x.n]) (fun W _ hh => by rw [← hf]; exact demote21 gc gs c ok x.n hh) (fun H => is_d2 H d _) ?_
  dsimp only [zq8t, caF, List.cons_append, List.nil_append]
  (refine Y_go 600 ?_; dsimp only [Y_k, zq4u, zq8o, zq6n, Nat.reduceBEq, zq6k, YK, zq8t, zq5j, zq2f, nth, zq2e, zq6l, zq5e, List.length_cons, List.length_nil, Nat.reduceAdd, List.map, zq6q, List.cons_append, List.nil_append, zq5d, zq7t, zq8l, zq73, zq8m, zq8k, zq0a, zq1x, zq1t, dropL, takeL, zq1r, splice, setn, zq8s, zq9i, normF, zq6m, zq86, zq89, zq8a, zq87, zq8c, zq88, zq9y, t17n13, T17n13, zq9r, zq9q, zq5a, zq14, zq5c, zq1o, zq1k, zq19, zq18, zq9j])
  intro ga
  refine call_dc (caF gc gs (demC c x.n)) [_, _] gw 0 1 A cc D (demD D x.n) (.tuple #[.agg (dV d).toArray, .int .i64 f]) (.tup [.agg [.val (.int .u64 (d 0)), .val (.int .u64 (d 1)), .val (.int .u64 (d 2)), .val (.int .u64 (d 3)), .val (.int .u64 (d 4)), .val (.int .u64 (d 5)), .val (.int .u64 (d 6)), .val (.int .u64 (d 7))], .val (.int .i64 f)]) rfl (vs := [.pointer (some ⟨gw, 0, none⟩), .int .i64 x.n]) rfl (by decide) (fun W _ hh => by rw [← hf, hv]; exact demote34 gw A cc D (by omega) hdu x.n hh) (fun H => is_d2 H d _) fun A' cc' => ?_
  dsimp only [zq8t, caF, List.length_cons, List.length_nil, Nat.reduceAdd, dcS, List.cons_append, List.nil_append]
  (refine Y_go 600 ?_; dsimp only [Y_k, zq4u, zq8o, zq6n, Nat.reduceBEq, zq6k, YK, zq8t, zq5j, zq2f, nth, zq2e, zq6l, zq5e, List.length_cons, List.length_nil, Nat.reduceAdd, List.map, zq6q, List.cons_append, List.nil_append, zq5d, zq7t, zq8l, zq73, zq8m, zq8k, zq0a, zq1x, zq1t, dropL, takeL, zq1r, splice, setn, zq8s, zq9i, normF, zq6m, zq86, zq89, zq8a, zq87, zq8c, zq88, zq9y, t17n12, T17n12, zq9r, zq9q, zq5c, zq1o, zq1k, zq19, zq17, zq5s, zq3o, eqSV, zq96, zq3q, Y_gk, zq6d, YR, zq69, zq50, zq04, zq92, zq9b, zq0i, zq9c, zq4v, zq8p, zq6p, zq0b, zq9x, YS, zq6b, zq0c])
  intro g2
  refine ⟨fun _ => ?_, fun h => absurd h (by simp)⟩
  exact ret_rule (vs := [.bool (f == f)]) r17 rfl rfl fun W hW => fin _ _ _ W [_, _, _] 1 A' cc' (by simp [tupOf]) hcp hdp hW
 ·have hk : x.kind = 5 := by simpa using q5
  have hcp : proC c x.n x.l = stepC c x := by rw [hsx, hk]; rfl
  have hdp : proD D x.n x.l = stepD D x := by rw [hdx, hk]; rfl
  have hv := (pro_rel ok iv s r x.n x.l).1
  obtain ⟨f, hf⟩ : ∃ f, inE c x.n 1 = f := ⟨_, rfl⟩
  refine call_ca gc gs c (proC c x.n x.l) (.int .i64 f) (.val (.int .i64 f)) [_, _, _] rfl rfl (vs := [.pointer (some ⟨gc, 0, none⟩), .int .i64 x.n, .agg (dV x.l).toArray]) (fun W _ hh => by rw [← hf]; exact promote22 gc gs c ok x.n x.l hh) (fun H => by simp [Is]) ?_
  dsimp only [zq8t, caF, List.cons_append, List.nil_append]
  (refine Y_go 600 ?_; dsimp only [Y_k, zq4u, zq8o, zq6n, Nat.reduceBEq, zq6k, YK, zq8t, zq9i, normF, zq6l, zq6m, zq86, zq89, zq8a, zq87, zq8c, zq88, zq9y, t17n16, T17n16, zq9r, zq9q, zq5a, zq14, Nat.reduceAdd, zq5c, zq1o, nth, zq1k, List.length_cons, List.length_nil, dropL, takeL, zq19, zq18, zq17, zq9j])
  refine call_dc (caF gc gs (proC c x.n x.l)) [_] gw 0 1 A cc D (proD D x.n x.l) (.int .i64 f) (.val (.int .i64 f)) rfl (vs := [.pointer (some ⟨gw, 0, none⟩), .int .i64 x.n, .agg (dV x.l).toArray]) rfl (by decide) (fun W _ hh => by rw [← hf, hv]; exact promote35 gw A cc D (by omega) hdu x.n x.l hh) (fun H => by simp [Is]) fun A' cc' => ?_
  dsimp only [zq8t, caF, List.length_cons, List.length_nil, Nat.reduceAdd, dcS, List.cons_append, List.nil_append]
  (refine Y_go 600 ?_; dsimp only [Y_k, zq4u, zq8o, zq6n, Nat.reduceBEq, zq6k, YK, zq8t, zq9i, normF, zq6l, zq6m, zq86, zq89, zq8a, zq87, zq8c, zq88, zq9y, t17n15, T17n15, zq9r, zq9q, zq50, zq04, zq92, zq9b, zq0i, zq9c, zq9x])
  exact ret_rule (vs := [.bool (f == f)]) r17 rfl rfl fun W hW => fin _ _ _ W [_] 1 A' cc' (by simp [tupOf]) hcp hdp hW
 ·have hk : x.kind = 6 := by simpa using q6
  have hcp : dropC c x.n = stepC c x := by rw [hsx, hk]; rfl
  have hdp : dropD D x.n = stepD D x := by rw [hdx, hk]; rfl
  have hv := (drop_rel ok iv s r x.n).1
  obtain ⟨e, f, hf⟩ := drop_form c x.n
  refine call_ca gc gs c (dropC c x.n) (.tuple #[.agg (enV e).toArray, .int .i64 f]) (.tup [.agg [.val (.int .i64 e.line), .val (.int .i64 e.st), .val (.bool e.rd), .val (.bool e.wr), .val (.int .u64 (e.d 0)), .val (.int .u64 (e.d 1)), .val (.int .u64 (e.d 2)), .val (.int .u64 (e.d 3)), .val (.int .u64 (e.d 4)), .val (.int .u64 (e.d 5)), .val (.int .u64 (e.d 6)), .val (.int .u64 (e.d 7)), .val (.int .u64 (e.o 0)), .val (.int .u64 (e.o 1)), .val (.int .u64 (e.o 2)), .val (.int .u64 (e.o 3)), .val (.int .u64 (e.o 4)), .val (.int .u64 (e.o 5)), .val (.int .u64 (e.o 6)), .val (.int .u64 (e.o 7)), .val (.int .i64 e.used)], .val (.int .i64 f)]) [_, _, _] rfl rfl (vs := [.pointer (some ⟨gc, 0, none⟩), .int .i64 x.n]) (fun W _ hh => by rw [← hf]; exact drop23 gc gs c ok x.n hh) (fun H => is_en2 H e _) ?_
  dsimp only [zq8t, caF, List.cons_append, List.nil_append]
  (refine Y_go 600 ?_; dsimp only [Y_k, zq4u, zq8o, zq6n, Nat.reduceBEq, zq6k, YK, zq8t, zq5j, zq2f, nth, zq2e, zq6l, zq5e, List.length_cons, List.length_nil, Nat.reduceAdd, List.map, zq6q, zq6p, List.cons_append, List.nil_append, zq5d, zq7t, zq8l, zq73, zq8m, zq7g, zq8k, zq0a, zq1x, zq1t, dropL, takeL, zq1r, splice, setn, zq8s, zq9i, normF, zq6m, zq86, zq89, zq8a, zq87, zq8c, zq88, zq9y, t17n19, T17n19, zq9r, zq9q, zq5a, zq14, zq5c, zq1o, zq1k, zq19, zq18, zq9j])
  intro ga
  refine call_dc (caF gc gs (dropC c x.n)) [_, _] gw 0 1 A cc D (dropD D x.n) (.tuple #[.agg (enV e).toArray, .int .i64 f]) (.tup [.agg [.val (.int .i64 e.line), .val (.int .i64 e.st), .val (.bool e.rd), .val (.bool e.wr), .val (.int .u64 (e.d 0)), .val (.int .u64 (e.d 1)), .val (.int .u64 (e.d 2)), .val (.int .u64 (e.d 3)), .val (.int .u64 (e.d 4)), .val (.int .u64 (e.d 5)), .val (.int .u64 (e.d 6)), .val (.int .u64 (e.d 7)), .val (.int .u64 (e.o 0)), .val (.int .u64 (e.o 1)), .val (.int .u64 (e.o 2)), .val (.int .u64 (e.o 3)), .val (.int .u64 (e.o 4)), .val (.int .u64 (e.o 5)), .val (.int .u64 (e.o 6)), .val (.int .u64 (e.o 7)), .val (.int .i64 e.used)], .val (.int .i64 f)]) rfl (vs := [.pointer (some ⟨gw, 0, none⟩), .int .i64 x.n]) rfl (by decide) (fun W _ hh => by rw [← hf, hv]; exact drop36 gw A cc D (by omega) x.n hh) (fun H => is_en2 H e _) fun A' cc' => ?_
  dsimp only [zq8t, caF, List.length_cons, List.length_nil, Nat.reduceAdd, dcS, List.cons_append, List.nil_append]
  (refine Y_go 600 ?_; dsimp only [Y_k, zq4u, zq8o, zq6n, Nat.reduceBEq, zq6k, YK, zq8t, zq5j, zq2f, nth, zq2e, zq6l, zq5e, List.length_cons, List.length_nil, Nat.reduceAdd, List.map, zq6q, zq6p, List.cons_append, List.nil_append, zq5d, zq7t, zq8l, zq73, zq8m, zq7g, zq8k, zq0a, zq1x, zq1t, dropL, takeL, zq1r, splice, setn, zq8s, zq9i, normF, zq6m, zq86, zq89, zq8a, zq87, zq8c, zq88, zq9y, t17n18, T17n18, zq9r, zq9q, zq5c, zq1o, zq1k, zq19, zq17, zq5s, zq3o, eqSV, zq92, zq8w, zq96, zq3q, Y_gk, zq6d, YR, zq69, zq50, zq04, zq9b, zq0i, zq9c, zq4v, zq8p, zq0b, zq9x, YS, zq6b, zq0c])
  intro g2
  refine ⟨fun _ => ?_, fun h => absurd h (by simp)⟩
  exact ret_rule (vs := [.bool (f == f)]) r17 rfl rfl fun W hW => fin _ _ _ W [_, _, _] 1 A' cc' (by simp [tupOf]) hcp hdp hW
 ·have hk : x.kind = 7 := by simpa using q7
  have hcp : comC c = stepC c x := by rw [hsx, hk]; rfl
  have hdp : comD D = stepD D x := by rw [hdx, hk]; rfl
  skip
  skip
  refine call_ca gc gs c (comC c) (.int .i64 0) (.val (.int .i64 0)) [_, _, _] rfl rfl (vs := [.pointer (some ⟨gc, 0, none⟩)]) (fun W _ hh => by exact commit10 gc gs c ok hh) (fun H => by simp [Is]) ?_
  dsimp only [zq8t, caF, List.cons_append, List.nil_append]
  (refine Y_go 600 ?_; dsimp only [Y_k, zq4u, zq8o, zq6n, Nat.reduceBEq, zq6k, YK, zq8t, zq9i, normF, zq6l, zq6m, zq86, zq89, zq8a, zq87, zq8c, zq88, zq9y, t17n22, T17n22, zq9r, zq9q, zq9j])
  refine call_dc (caF gc gs (comC c)) [_] gw 0 1 A cc D (comD D) (.tuple #[]) (.tup []) rfl (vs := [.pointer (some ⟨gw, 0, none⟩)]) rfl (by decide) (fun W _ hh => by exact commit37 gw A cc D (by omega) hh) (fun H => by simp [Is, IsL]) fun A' cc' => ?_
  dsimp only [zq8t, caF, List.length_cons, List.length_nil, Nat.reduceAdd, dcS, List.cons_append, List.nil_append]
  (refine Y_go 600 ?_; dsimp only [zq9i, normF, zq6n, Nat.reduceBEq, zq6l, zq6k, zq6m, zq86, zq89, zq8a, zq87, zq8c, zq88, zq9y, t17n21, T17n21, zq9r, zq9q, Y_k, zq4u, zq8o, YK, zq8t, zq50, zq8p, zq6q, zq04, zq92, zq9b, zq0i, zq9c, zq9x])
  exact ret_rule (vs := [.bool ((0 : Int) == 0)]) r17 rfl rfl fun W hW => fin _ _ _ W [_] 1 A' cc' (by simp [tupOf]) hcp hdp hW
 ·have hk : x.kind = 8 := by simpa using q8
  have hcp : disC c = stepC c x := by rw [hsx, hk]; rfl
  have hdp : disD D = stepD D x := by rw [hdx, hk]; rfl
  skip
  skip
  refine call_ca gc gs c (disC c) (.int .i64 0) (.val (.int .i64 0)) [_, _, _] rfl rfl (vs := [.pointer (some ⟨gc, 0, none⟩)]) (fun W _ hh => by exact discard15 gc gs c ok hh) (fun H => by simp [Is]) ?_
  dsimp only [zq8t, caF, List.cons_append, List.nil_append]
  (refine Y_go 600 ?_; dsimp only [Y_k, zq4u, zq8o, zq6n, Nat.reduceBEq, zq6k, YK, zq8t, zq9i, normF, zq6l, zq6m, zq86, zq89, zq8a, zq87, zq8c, zq88, zq9y, t17n25, T17n25, zq9r, zq9q, zq9j])
  refine call_dc (caF gc gs (disC c)) [_] gw 0 1 A cc D (disD D) (.tuple #[]) (.tup []) rfl (vs := [.pointer (some ⟨gw, 0, none⟩)]) rfl (by decide) (fun W _ hh => by exact discard38 gw A cc D (by omega) hh) (fun H => by simp [Is, IsL]) fun A' cc' => ?_
  dsimp only [zq8t, caF, List.length_cons, List.length_nil, Nat.reduceAdd, dcS, List.cons_append, List.nil_append]
  (refine Y_go 600 ?_; dsimp only [zq9i, normF, zq6n, Nat.reduceBEq, zq6l, zq6k, zq6m, zq86, zq89, zq8a, zq87, zq8c, zq88, zq9y, t17n24, T17n24, zq9r, zq9q, Y_k, zq4u, zq8o, YK, zq8t, zq50, zq8p, zq6q, zq04, zq92, zq9b, zq0i, zq9c, zq9x])
  exact ret_rule (vs := [.bool ((0 : Int) == 0)]) r17 rfl rfl fun W hW => fin _ _ _ W [_] 1 A' cc' (by simp [tupOf]) hcp hdp hW
 ·have hk : x.kind = 9 := by simpa using q9
  have hcp : c = stepC c x := by rw [hsx, hk]; rfl
  have hdp : D = stepD D x := by rw [hdx, hk]; rfl
  have hv := find_rel ok iv r x.n
  obtain ⟨e, b, hf⟩ := find_form c x.n
  refine call_ca gc gs c (c) (.tuple #[.agg (enV e).toArray, .bool b]) (.tup [.agg [.val (.int .i64 e.line), .val (.int .i64 e.st), .val (.bool e.rd), .val (.bool e.wr), .val (.int .u64 (e.d 0)), .val (.int .u64 (e.d 1)), .val (.int .u64 (e.d 2)), .val (.int .u64 (e.d 3)), .val (.int .u64 (e.d 4)), .val (.int .u64 (e.d 5)), .val (.int .u64 (e.d 6)), .val (.int .u64 (e.d 7)), .val (.int .u64 (e.o 0)), .val (.int .u64 (e.o 1)), .val (.int .u64 (e.o 2)), .val (.int .u64 (e.o 3)), .val (.int .u64 (e.o 4)), .val (.int .u64 (e.o 5)), .val (.int .u64 (e.o 6)), .val (.int .u64 (e.o 7)), .val (.int .i64 e.used)], .val (.bool b)]) [_, _, _] rfl rfl (vs := [.pointer (some ⟨gc, 0, none⟩), .int .i64 x.n]) (fun W _ hh => by rw [← hf]; exact find20 gc gs c ok x.n hh) (fun H => is_en2 H e _) ?_
  dsimp only [zq8t, caF, List.cons_append, List.nil_append]
  (refine Y_go 600 ?_; dsimp only [Y_k, zq4u, zq8o, zq6n, Nat.reduceBEq, zq6k, YK, zq8t, zq5j, zq2f, nth, zq2e, zq6l, zq5e, List.length_cons, List.length_nil, Nat.reduceAdd, List.map, zq6q, zq6p, List.cons_append, List.nil_append, zq5d, zq7t, zq8l, zq73, zq8m, zq7g, zq8k, zq0a, zq1x, zq1t, dropL, takeL, zq1r, splice, setn, zq8s, zq9i, normF, zq6m, zq89, zq8a, zq87, zq86, zq8c, zq88, zq9y, t17n28, T17n28, zq9r, zq9q, zq5a, zq14, zq5c, zq1o, zq1k, zq19, zq18, zq9j])
  intro ga
  refine call_dc (caF gc gs (c)) [_, _] gw 0 1 A cc D (D) (.tuple #[.agg (enV e).toArray, .bool b]) (.tup [.agg [.val (.int .i64 e.line), .val (.int .i64 e.st), .val (.bool e.rd), .val (.bool e.wr), .val (.int .u64 (e.d 0)), .val (.int .u64 (e.d 1)), .val (.int .u64 (e.d 2)), .val (.int .u64 (e.d 3)), .val (.int .u64 (e.d 4)), .val (.int .u64 (e.d 5)), .val (.int .u64 (e.d 6)), .val (.int .u64 (e.d 7)), .val (.int .u64 (e.o 0)), .val (.int .u64 (e.o 1)), .val (.int .u64 (e.o 2)), .val (.int .u64 (e.o 3)), .val (.int .u64 (e.o 4)), .val (.int .u64 (e.o 5)), .val (.int .u64 (e.o 6)), .val (.int .u64 (e.o 7)), .val (.int .i64 e.used)], .val (.bool b)]) rfl (vs := [.pointer (some ⟨gw, 0, none⟩), .int .i64 x.n]) rfl (by decide) (fun W _ hh => by rw [← hf, hv]; exact find39 gw A cc D (by omega) hdu x.n hh) (fun H => is_en2 H e _) fun A' cc' => ?_
  dsimp only [zq8t, caF, List.length_cons, List.length_nil, Nat.reduceAdd, dcS, List.cons_append, List.nil_append]
  (refine Y_go 600 ?_; dsimp only [Y_k, zq4u, zq8o, zq6n, Nat.reduceBEq, zq6k, YK, zq8t, zq5j, zq2f, nth, zq2e, zq6l, zq5e, List.length_cons, List.length_nil, Nat.reduceAdd, List.map, zq6q, zq6p, List.cons_append, List.nil_append, zq5d, zq7t, zq8l, zq73, zq8m, zq7g, zq8k, zq0a, zq1x, zq1t, dropL, takeL, zq1r, splice, setn, zq8s, zq9i, normF, zq6m, zq89, zq8a, zq87, zq8c, zq86, zq88, zq9y, t17n27, T17n27, zq9r, zq9q, zq5c, zq1o, zq1k, zq19, zq17, zq5s, zq3o, eqSV, zq92, zq8w, zq96, zq3q, Y_gk, zq6d, YR, zq69, zq51, zq0k, zq4v, zq8p, zq0b, zq9x, YS, zq6b, zq0c])
  intro g2
  refine ⟨fun _ => ?_, fun h => absurd h (by simp)⟩
  exact ret_rule (vs := [.bool (b == b)]) r17 rfl rfl fun W hW => fin _ _ _ W [_, _, _] 1 A' cc' (by simp [tupOf]) hcp hdp hW
 ·exact ret_rule (vs := [.bool true]) r17 rfl rfl fun W hW => fin _ c D W [_] 0 A cc rfl (by rw [hsx, if_neg (by simpa using q0), if_neg (by simpa using q1), if_neg (by simpa using q2), if_neg (by simpa using q3), if_neg (by simpa using q4), if_neg (by simpa using q5), if_neg (by simpa using q6), if_neg (by simpa using q7), if_neg (by simpa using q8)]) (by rw [hdx, if_neg (by simpa using q0), if_neg (by simpa using q1), if_neg (by simpa using q2), if_neg (by simpa using q3), if_neg (by simpa using q4), if_neg (by simpa using q5), if_neg (by simpa using q6), if_neg (by simpa using q7), if_neg (by simpa using q8)]) hW
end Go.Proofs.Ytimmobbginjkfaa
