/- CachePlays: the document's list without one place; an entry put at its place. -/
import Derived.Test.YtimmobbginjkfaaCpW3
import Derived.Test.YtimmobbginjkfaaCaW11
import Derived.Test.YtimmobbginjkfaaCaCodeR
import Derived.Deep.Slices
set_option linter.unusedSimpArgs false
set_option linter.unusedVariables false
set_option linter.unnecessarySimpa false
namespace Go.Proofs.Ytimmobbginjkfaa
open Go Go.Sx Go.Ca
set_option maxRecDepth 100000
theorem rowE_rd {E : Env} {A : Option Addr} {xs : List Value} (h : RowE E A xs) {k : Nat} (hk : xs.length = k) (h1 : ∀ u ∈ xs, u.oneCell' = true) : RdOld E A k xs := by
 refine ⟨hk, fun h0 => ?_, h1⟩
 obtain ⟨a, rfl, ho, _⟩ := h 0 xs[0] (List.getElem?_eq_getElem (by omega))
 exact ⟨a, rfl, ho, fun j u hj => by
  obtain ⟨a', e, _, hc⟩ := h j u hj
  injection e with e; subst e; exact hc⟩
theorem esV_one (l : List En) : ∀ u ∈ esV l, u.oneCell' = true := by
 intro u hu
 unfold esV at hu
 obtain ⟨e, _, he⟩ := List.mem_flatMap.1 hu
 simp only [enV, List.mem_cons, List.not_mem_nil, or_false] at he
 rcases he with rfl | rfl | rfl | rfl | rfl | rfl | rfl | rfl | rfl | rfl | rfl | rfl | rfl | rfl | rfl | rfl | rfl | rfl | rfl | rfl | rfl <;> rfl
theorem esV_app (a b : List En) : esV (a ++ b) = esV a ++ esV b := by unfold esV; rw [List.flatMap_append]
theorem row_take {E : Env} {A : Option Addr} {es : List En} (h : RowE E A (esV es)) {i : Nat} (hi : i ≤ es.length) : RdOld E A (i * 21) (esV (es.take i)) := by
 refine rowE_rd (fun j u hj => h j u ?_) (by rw [esV_len, List.length_take]; omega) (esV_one _)
 have e : esV es = esV (es.take i) ++ esV (es.drop i) := by rw [← esV_app, List.take_append_drop]
 rw [e, List.getElem?_append_left (List.getElem?_eq_some_iff.1 hj).1]
 exact hj
theorem row_drop {E : Env} {A : Option Addr} {es : List En} (h : RowE E A (esV es)) {l cc : Nat} (hl : l ≤ es.length) (hc : es.length ≤ cc) : RdOld E (subA A cc l 21) ((es.length - l) * 21) (esV (es.drop l)) := by
 refine rowE_rd (fun j u hj => ?_) (by rw [esV_len, List.length_drop]) (esV_one _)
 have hjl := (List.getElem?_eq_some_iff.1 hj).1
 rw [esV_len, List.length_drop] at hjl
 have e : esV es = esV (es.take l) ++ esV (es.drop l) := by rw [← esV_app, List.take_append_drop]
 have ht : (esV (es.take l)).length = l * 21 := by rw [esV_len, List.length_take]; omega
 obtain ⟨a, rfl, ho, hcell⟩ := h (l * 21 + j) u (by rw [e, List.getElem?_append_right (by omega), ht, Nat.add_sub_cancel_left]; exact hj)
 unfold subA
 rw [if_neg (by intro e; subst e; omega)]
 refine ⟨a.add (l * 21), rfl, by rw [add_block]; exact ho, ?_⟩
 rw [Go.Deep.add_add]; exact hcell
theorem dc_val {H : List SO} {A : Option Addr} {n cc : Nat} {xs : List Value} {x y z : Value} (hi : nth H 1 = some (.own 44 0 21 A n cc xs)) : ∀ vs, IsL H [.val x, .val y, .own 1 0, .val z] vs → IsL H [.val x, .val y, .val (.slice A n cc), .val z] vs := by
 intro vs h
 simp only [IsL, Is] at h ⊢
 obtain ⟨_, _, rfl, ⟨_, _, rfl, ⟨w, _, ⟨t, ver', sz, A1, n1, c1, xs1, hn, _, _, hv⟩, r⟩, rfl⟩, rfl⟩ := h
 rw [hi] at hn
 injection hn with hn
 injection hn with e1 e2 e3 e4 e5 e6 e7
 subst e1; subst e2; subst e3; subst e4; subst e5; subst e6; subst e7
 have hv := hv rfl
 subst hv
 exact ⟨_, _, rfl, ⟨_, _, rfl, ⟨_, _, rfl, r⟩, rfl⟩, rfl⟩
def dropI (D : Dc) (i : Nat) : Dc := { D with es := D.es.take i ++ D.es.drop (i + 1) }
theorem without47 {E0 : Env} {W : World} (gw : Nat) (A : Option Addr) (cc : Nat) (D : Dc) (hl : D.es.length ≤ 1000) (i : Nat) (hi : i < D.es.length) (hW : HeapOk E0 (dcS 0 gw 0 A cc D) W) :
  CallsV Try.prog 47 [.pointer (some ⟨gw, 0, none⟩), .int .i64 i] W fun v W' => v = .tuple #[] ∧ ∃ v' A' cc', HeapOk E0 (dcS 0 gw v' A' cc' (dropI D i)) W' := by
 have hcap : D.es.length ≤ cc := hW.cap (i := 1) rfl
 obtain ⟨b0, N, st, nt0, mk0⟩ := E0
 refine calls_lent (keep := K47) (nt := 25) (svs := [.ptr 0 0, .val (.int .i64 i)]) Try.func47 x47 n47 (by simp) hW (by simp [IsL, Is, dcS, blk, nth, SO.blk]) fun R hR => ?_
 have hcc : ∀ W1, HeapOk ⟨b0, N, st, 25, []⟩ (dcS 0 gw 0 A cc D) W1 → True := fun _ _ => trivial
 refine G.le (E' := ⟨b0, N, st, 25, []⟩) rfl (s' := { F := [(0, .ptr 0 0), (1, .val (.int .i64 i))], H := [.cells gw 47 [.val (.int .i64 D.sets), .val (.int .i64 D.ways), .val (.slice A D.es.length cc), .val (.int .i64 D.uses)]] ++ [.own 44 0 21 A D.es.length cc (esV D.es)] }) (fun a W rep => (rep.cellsTo 0 (l' := [.val (.int .i64 D.sets), .val (.int .i64 D.ways), .val (.slice A D.es.length cc), .val (.int .i64 D.uses)]) rfl (dc_val rfl)).le (by simp only [numF]; (simp only [setn, List.nil_append, List.cons_append, leF, leH_nil, leH_cons, leF_nil, lk, scp, scpL, scpO, resF, resH, resO, resV, resVL, nth, Nat.reduceBEq, Nat.reduceLT, decide_true, decide_false, List.length, List.length_cons, List.length_nil, Nat.reduceAdd, Bool.and_self, Bool.and_true, and_true, true_and, numF] <;> try simp)) (by simp only [dcS]; (simp only [setn, List.nil_append, List.cons_append, leF, leH_nil, leH_cons, leF_nil, lk, scp, scpL, scpO, resF, resH, resO, resV, resVL, nth, Nat.reduceBEq, Nat.reduceLT, decide_true, decide_false, List.length, List.length_cons, List.length_nil, Nat.reduceAdd, Bool.and_self, Bool.and_true, and_true, true_and, numF] <;> try simp))) ?_
 refine G.cut (H1 := [.cells gw 47 [.val (.int .i64 D.sets), .val (.int .i64 D.ways), .val (.slice A D.es.length cc), .val (.int .i64 D.uses)]]) rfl (by (simp only [setn, List.nil_append, List.cons_append, leF, leH_nil, leH_cons, leF_nil, lk, scp, scpL, scpO, resF, resH, resO, resV, resVL, nth, Nat.reduceBEq, Nat.reduceLT, decide_true, decide_false, List.length, List.length_cons, List.length_nil, Nat.reduceAdd, Bool.and_self, Bool.and_true, and_true, true_and, numF] <;> try simp)) fun W1 hW1 hov => ?_
 have hE : RowE ⟨W1, W1.heap.size, [gw], 25, []⟩ A (esV D.es) := hW1.offO (t := 44) (ver := 0) (sz := 21) (n := D.es.length) (c := cc) (by simp) 25 []
 clear hW1 hcc
 have hst : fps [SO.cells gw 47 [.val (.int .i64 D.sets), .val (.int .i64 D.ways), .val (.slice A D.es.length cc), .val (.int .i64 D.uses)]] = [gw] := rfl
 rw [hst] at hov ⊢
 (refine Y_go 600 ?_; dsimp only [X47, zq9r, zq9q, Y_k, zq4u, zq8p, zq6u, YK, zq8t, zq9i, normF, zq6n, Nat.reduceBEq, zq6l, zq6k, zq87, zq8c, zq9y, t47n1, T47n1, zq8o, zq5i, zq29, zq5a, zq14, Nat.reduceAdd, zq5c, zq1o, nth, zq1k, List.length_cons, List.length_nil, dropL, takeL, zq19, zq18, zq5o, zq3a, zq39, zq06, zq37, zq3f, zq97, Int.reduceToNat, zq5l, zq2v, zq2r, zq2o, zq2g, List.cons_append, List.nil_append, zq8f, t47n0, T47n0, zq4w, zq6q, zq04, zq92, zq9b, zq0e, zq3b, zq38, zq3e, zq98, zq2w, zq09, zq08, zq2s, zq2h, setn, zq5d, zq81, zq7n, zq0a, zq1x, zq1t, zq1r, splice, zq8s, zqa3])
 refine ⟨⟨by omega, by omega, by omega⟩, esV (D.es.take i), row_take hE (by omega), ⟨by simp only [maxLen]; omega, by omega⟩, fun A1 c1 => ⟨((i + 1 : Nat) : Int), ArOk.to (by omega) (by omega) (by omega), ⟨by omega, by omega⟩, esV (D.es.drop (i + 1)), row_drop hE (by omega) hcap, ⟨by simp only [maxLen]; omega, by omega⟩, fun A2 c2 => ?_⟩⟩
 refine ret_rule (keep := K47) (tab := T47) (vs := []) r47 rfl rfl fun W hW => hR _ _ ⟨rfl, 1, A2, c2, ?_⟩
 have hlen : (dropI D i).es.length = (i : Int).toNat - 0 + (D.es.length - ((i + 1 : Nat) : Int).toNat) := by
  simp only [dropI, List.length_append, List.length_take, List.length_drop]; omega
 have e0 : dcS 0 gw 1 A2 c2 (dropI D i) = [.cells gw 47 [.val (.int .i64 D.sets), .val (.int .i64 D.ways), .own 1 1, .val (.int .i64 D.uses)], .own 44 1 21 A2 ((i : Int).toNat - 0 + (D.es.length - ((i + 1 : Nat) : Int).toNat)) c2 (esV (D.es.take i) ++ esV (D.es.drop (i + 1)))] := by
  rw [← hlen, ← esV_app]; rfl
 rw [e0]
 exact HeapOk.env (E := ⟨b0, N, st, 25, []⟩) (E' := ⟨b0, N, st, nt0, mk0⟩) rfl rfl rfl (hov.heap hW)
def putAt (l : List En) (line : Int) : Nat := (l.takeWhile fun x => decide (x.line < line)).length
def putI (D : Dc) (e : En) : Dc := { D with es := D.es.take (putAt D.es e.line) ++ e :: D.es.drop (putAt D.es e.line) }
theorem putAt_is {l : List En} {line : Int} {i : Nat} (hi : i ≤ l.length) (h1 : ∀ k, k < i → ∀ hk : k < l.length, l[k].line < line) (h2 : ∀ hk : i < l.length, ¬ l[i].line < line) : putAt l line = i := by
 unfold putAt
 induction l generalizing i with
 | nil => simp at hi; subst hi; rfl
 | cons x l ih =>
  cases i with
  | zero =>
   have := h2 (by simp)
   simp only [List.getElem_cons_zero] at this
   simp [List.takeWhile_cons, this]
  | succ i =>
   have h0 := h1 0 (by omega) (by simp)
   simp only [List.getElem_cons_zero] at h0
   rw [List.takeWhile_cons_of_pos (by simpa using h0), List.length_cons, ih (i := i) (by simpa using hi) (fun k hk hk2 => h1 (k + 1) (by omega) (by simpa using hk2)) (fun hk => h2 (by simpa using hk))]
theorem put48 {E0 : Env} {W : World} (gw : Nat) (A : Option Addr) (cc : Nat) (D : Dc) (hl : D.es.length ≤ 1000) (e : En) (hW : HeapOk E0 (dcS 0 gw 0 A cc D) W) :
  CallsV Try.prog 48 [.pointer (some ⟨gw, 0, none⟩), .agg (enV e).toArray] W fun v W' => v = .tuple #[] ∧ ∃ v' A' cc', HeapOk E0 (dcS 0 gw v' A' cc' (putI D e)) W' := by
 have hcap : D.es.length ≤ cc := hW.cap (i := 1) rfl
 obtain ⟨b0, N, st, nt0, mk0⟩ := E0
 refine calls_lent (keep := K48) (nt := 51) (svs := [.ptr 0 0, .agg [.val (.int .i64 e.line), .val (.int .i64 e.st), .val (.bool e.rd), .val (.bool e.wr), .val (.int .u64 (e.d 0)), .val (.int .u64 (e.d 1)), .val (.int .u64 (e.d 2)), .val (.int .u64 (e.d 3)), .val (.int .u64 (e.d 4)), .val (.int .u64 (e.d 5)), .val (.int .u64 (e.d 6)), .val (.int .u64 (e.d 7)), .val (.int .u64 (e.o 0)), .val (.int .u64 (e.o 1)), .val (.int .u64 (e.o 2)), .val (.int .u64 (e.o 3)), .val (.int .u64 (e.o 4)), .val (.int .u64 (e.o 5)), .val (.int .u64 (e.o 6)), .val (.int .u64 (e.o 7)), .val (.int .i64 e.used)]]) Try.func48 x48 n48 (by simp) hW ?_ fun R hR => ?_
 ·simp only [IsL]
  exact ⟨_, _, by simp [Is, dcS, blk, nth, SO.blk], ⟨_, _, enSV_is _ e, rfl, rfl⟩, rfl⟩
 (refine Y_go 600 ?_; dsimp only [X48, numF, Nat.reduceAdd, dcS, zq9r, zq9q, Y_k, zq5f, zq8o, zq6n, Nat.reduceBEq, zq6l, zq6k, zq7t, List.length_cons, List.length_nil, zq8l, zq73, zq8m, zq7g, zq8k, zq0a, zq1z, List.cons_append, List.nil_append, YK, zq8t, zq9i, normF, zq6m, zq86, zq8c, zq88, zq9y, t48n7, T48n7, zq4u, zq8p, zq6q, zq87, t48n6, T48n6, zq9t, zq9v])
 intro g
 refine G.le (E' := ⟨b0, N, st, 51, []⟩) rfl (s' := { F := [(0, .ptr 0 0), (3, .ptr 1 0), (4, .val (.int .i64 0))], H := [.cells gw 47 [.val (.int .i64 D.sets), .val (.int .i64 D.ways), .val (.slice A D.es.length cc), .val (.int .i64 D.uses)], .cells g 44 [.val (.int .i64 e.line), .val (.int .i64 e.st), .val (.bool e.rd), .val (.bool e.wr), .val (.int .u64 (e.d 0)), .val (.int .u64 (e.d 1)), .val (.int .u64 (e.d 2)), .val (.int .u64 (e.d 3)), .val (.int .u64 (e.d 4)), .val (.int .u64 (e.d 5)), .val (.int .u64 (e.d 6)), .val (.int .u64 (e.d 7)), .val (.int .u64 (e.o 0)), .val (.int .u64 (e.o 1)), .val (.int .u64 (e.o 2)), .val (.int .u64 (e.o 3)), .val (.int .u64 (e.o 4)), .val (.int .u64 (e.o 5)), .val (.int .u64 (e.o 6)), .val (.int .u64 (e.o 7)), .val (.int .i64 e.used)]] ++ [.own 44 0 21 A D.es.length cc (esV D.es)] }) (fun a W rep => ((rep.cellsTo 0 (l' := [.val (.int .i64 D.sets), .val (.int .i64 D.ways), .val (.slice A D.es.length cc), .val (.int .i64 D.uses)]) rfl (dc_val rfl)).pick [0, 2, 1] (by decide)).le (by (simp only [renF, renV, renVL, renO, pickH, pickE, posOf, setn, List.nil_append, List.cons_append, leF, leH_nil, leH_cons, leF_nil, lk, scp, scpL, scpO, resF, resH, resO, resV, resVL, nth, Nat.reduceBEq, Nat.reduceLT, decide_true, decide_false, List.length, List.length_cons, List.length_nil, Nat.reduceAdd, Bool.and_self, Bool.and_true, and_true, true_and, numF] <;> try simp)) (by (simp only [renF, renV, renVL, renO, pickH, pickE, posOf, setn, List.nil_append, List.cons_append, leF, leH_nil, leH_cons, leF_nil, lk, scp, scpL, scpO, resF, resH, resO, resV, resVL, nth, Nat.reduceBEq, Nat.reduceLT, decide_true, decide_false, List.length, List.length_cons, List.length_nil, Nat.reduceAdd, Bool.and_self, Bool.and_true, and_true, true_and, numF] <;> try simp))) ?_
 refine G.cut (H1 := [.cells gw 47 [.val (.int .i64 D.sets), .val (.int .i64 D.ways), .val (.slice A D.es.length cc), .val (.int .i64 D.uses)], .cells g 44 [.val (.int .i64 e.line), .val (.int .i64 e.st), .val (.bool e.rd), .val (.bool e.wr), .val (.int .u64 (e.d 0)), .val (.int .u64 (e.d 1)), .val (.int .u64 (e.d 2)), .val (.int .u64 (e.d 3)), .val (.int .u64 (e.d 4)), .val (.int .u64 (e.d 5)), .val (.int .u64 (e.d 6)), .val (.int .u64 (e.d 7)), .val (.int .u64 (e.o 0)), .val (.int .u64 (e.o 1)), .val (.int .u64 (e.o 2)), .val (.int .u64 (e.o 3)), .val (.int .u64 (e.o 4)), .val (.int .u64 (e.o 5)), .val (.int .u64 (e.o 6)), .val (.int .u64 (e.o 7)), .val (.int .i64 e.used)]]) rfl (by (simp only [setn, List.nil_append, List.cons_append, leF, leH_nil, leH_cons, leF_nil, lk, scp, scpL, scpO, resF, resH, resO, resV, resVL, nth, Nat.reduceBEq, Nat.reduceLT, decide_true, decide_false, List.length, List.length_cons, List.length_nil, Nat.reduceAdd, Bool.and_self, Bool.and_true, and_true, true_and, numF] <;> try simp)) fun W1 hW1 hov => ?_
 have hE : RowE ⟨W1, W1.heap.size, [gw, g], 51, []⟩ A (esV D.es) := hW1.offO (t := 44) (ver := 0) (sz := 21) (n := D.es.length) (c := cc) (by simp) 51 []
 clear hW1
 have hst : fps [.cells gw 47 [.val (.int .i64 D.sets), .val (.int .i64 D.ways), .val (.slice A D.es.length cc), .val (.int .i64 D.uses)], .cells g 44 [.val (.int .i64 e.line), .val (.int .i64 e.st), .val (.bool e.rd), .val (.bool e.wr), .val (.int .u64 (e.d 0)), .val (.int .u64 (e.d 1)), .val (.int .u64 (e.d 2)), .val (.int .u64 (e.d 3)), .val (.int .u64 (e.d 4)), .val (.int .u64 (e.d 5)), .val (.int .u64 (e.d 6)), .val (.int .u64 (e.d 7)), .val (.int .u64 (e.o 0)), .val (.int .u64 (e.o 1)), .val (.int .u64 (e.o 2)), .val (.int .u64 (e.o 3)), .val (.int .u64 (e.o 4)), .val (.int .u64 (e.o 5)), .val (.int .u64 (e.o 6)), .val (.int .u64 (e.o 7)), .val (.int .i64 e.used)]] = [gw, g] := rfl
 rw [hst] at hov ⊢
 have sA : 0 < D.es.length → A.isSome = true := fun h => RowE.isSome hE (j := 0) (by rw [esV_len]; omega)
 refine loop_go (α := Nat) (fun i => i ≤ D.es.length ∧ ∀ k, k < i → ∀ hk : k < D.es.length, D.es[k].line < e.line) (fun _ => ⟨W1, W1.heap.size, [gw, g], 51, []⟩)
  (fun i => { F := [(0, .ptr 0 0), (3, .ptr 1 0), (4, .val (.int .i64 i))], H := [.cells gw 47 [.val (.int .i64 D.sets), .val (.int .i64 D.ways), .val (.slice A D.es.length cc), .val (.int .i64 D.uses)], .cells g 44 [.val (.int .i64 e.line), .val (.int .i64 e.st), .val (.bool e.rd), .val (.bool e.wr), .val (.int .u64 (e.d 0)), .val (.int .u64 (e.d 1)), .val (.int .u64 (e.d 2)), .val (.int .u64 (e.d 3)), .val (.int .u64 (e.d 4)), .val (.int .u64 (e.d 5)), .val (.int .u64 (e.d 6)), .val (.int .u64 (e.d 7)), .val (.int .u64 (e.o 0)), .val (.int .u64 (e.o 1)), .val (.int .u64 (e.o 2)), .val (.int .u64 (e.o 3)), .val (.int .u64 (e.o 4)), .val (.int .u64 (e.o 5)), .val (.int .u64 (e.o 6)), .val (.int .u64 (e.o 7)), .val (.int .i64 e.used)]] }) (fun i => D.es.length - i) (fun _ => rfl) ?start ?round
 case start =>
  intro a W rep
  exact ⟨0, ⟨Nat.zero_le _, fun k hk => by omega⟩, rep.le (by (simp only [setn, List.nil_append, List.cons_append, leF, leH_nil, leH_cons, leF_nil, lk, scp, scpL, scpO, resF, resH, resO, resV, resVL, nth, Nat.reduceBEq, Nat.reduceLT, decide_true, decide_false, List.length, List.length_cons, List.length_nil, Nat.reduceAdd, Bool.and_self, Bool.and_true, and_true, true_and, numF] <;> try simp)) (by (simp only [setn, List.nil_append, List.cons_append, leF, leH_nil, leH_cons, leF_nil, lk, scp, scpL, scpO, resF, resH, resO, resV, resVL, nth, Nat.reduceBEq, Nat.reduceLT, decide_true, decide_false, List.length, List.length_cons, List.length_nil, Nat.reduceAdd, Bool.and_self, Bool.and_true, and_true, true_and, numF] <;> try simp))⟩
 case round =>
  rintro i ⟨hi, hlo⟩ I again
  (refine Y_go 600 ?_; dsimp only [zq9y, t48n1, T48n1, zq9r, zq9q, Y_k, zq4u, zq8o, zq6n, Nat.reduceBEq, zq6l, zq6k, YK, zq8t, zq5i, zq29, zq5a, zq14, Nat.reduceAdd, zq5c, zq1o, nth, zq1k, List.length_cons, List.length_nil, dropL, takeL, zq19, zq18, zq55, zq0r, zq50, zq04, zq92, zq9b, zq0i, zq9e, Y_gk, zq6d, YR, zq69, zq58, zq06, zq0w, zq16, Nat.add_zero, zq1p, zq1c, List.nil_append, zq1b, zq4v, zq8p, zq6p, zq0b, zq9i, normF, zq6m, zq87, zq86, zq8c, zq9s, zq6h, zq8x, YC, zq9p, t48n0, T48n0, zq9t, zq4w, zq6q, zq0e, zq89, zqa1, zqa2, zq9u, popTo, zq6i, YP, t48n5, T48n5, zq6u, zq8a, t48n4, T48n4, zq5o, zq3a, zq39, zq37, zq3f, zq97, Int.reduceToNat, zq5l, zq2v, zq2r, zq2o, zq2g, List.cons_append, zq8f, t48n3, T48n3, zq17, zq5h, List.map, repL, zq23, Nat.reduceMul, zq7t, zq8l, zq73, zq8m, zq7g, zq8k, zq0a, zq20, splice, setn, zq24, zq26, zq2w, zq09, zq08, zq2s, zq2n, zq2j, zq2k, denL, den, zq2l, zq2h, t48n2, T48n2, zq3b, zq38, zq3e, zq98, zq5d, zq81, zq7n, zq1x, zq1t, zq1r, zq8s, zqa3, YS, zq6b, zq0c, zq6g])
  have leaf : putAt D.es e.line = i → ∀ (s : SS) (A1 : Option Addr) (c1 : Nat), (∀ W, HeapOk ⟨W1, W1.heap.size, [gw, g], 51, []⟩ s.H W → HeapOk ⟨W1, W1.heap.size, [gw, g], 51, []⟩ [.cells gw 47 [.val (.int .i64 D.sets), .val (.int .i64 D.ways), .own 1 2, .val (.int .i64 D.uses)], .own 44 2 21 A1 (i - 0 + 1 + (D.es.length - i)) c1 ((esV (D.es.take i) ++ enV e) ++ esV (D.es.drop i))] W) → G (cxOf Try.prog Try.f48 K48 T48 R) ⟨W1, W1.heap.size, [gw, g], 51, []⟩ [] s := fun hpa s A1 c1 hs => by
   refine ret_rule (keep := K48) (tab := T48) (vs := []) r48 rfl rfl fun W hW => hR _ _ ⟨rfl, 2, A1, c1, ?_⟩
   have hlen : (putI D e).es.length = i - 0 + 1 + (D.es.length - i) := by
    simp only [putI, hpa, List.length_append, List.length_take, List.length_cons, List.length_drop]; omega
   have hes : esV (putI D e).es = (esV (D.es.take i) ++ enV e) ++ esV (D.es.drop i) := by
    simp only [putI, hpa]
    rw [esV_app, List.append_assoc]
    rfl
   have e0 : dcS 0 gw 2 A1 c1 (putI D e) = [.cells gw 47 [.val (.int .i64 D.sets), .val (.int .i64 D.ways), .own 1 2, .val (.int .i64 D.uses)], .own 44 2 21 A1 (i - 0 + 1 + (D.es.length - i)) c1 ((esV (D.es.take i) ++ enV e) ++ esV (D.es.drop i))] := by
    rw [← hlen, ← hes]; rfl
   rw [e0]
   exact HeapOk.env (E := ⟨b0, N, st, 51, []⟩) (E' := ⟨b0, N, st, nt0, mk0⟩) rfl rfl rfl (hov.heap (hs W hW))
  have hmx : D.es.length + 1 ≤ maxLen := by simp only [maxLen]; omega
  refine ⟨fun hlt => ?_, fun hge => ?_⟩
  ·have hlt : i < D.es.length := by have := of_decide_eq_true hlt; omega
   rw [Int.toNat_natCast]
   refine ⟨⟨by omega, by omega, sA (by omega)⟩, sA (by omega), D.es[i].line, hE.cell (esV_atm 0 hlt rfl rfl), fun h => ⟨((i + 1 : Nat) : Int), ArOk.to (by omega) (by omega) (by omega), lend_rule fun a W rep => again (i + 1) ⟨hlt, fun k hk hk2 => ?_⟩ (by omega) a W (rep.le (by (simp only [setn, List.nil_append, List.cons_append, leF, leH_nil, leH_cons, leF_nil, lk, scp, scpL, scpO, resF, resH, resO, resV, resVL, nth, Nat.reduceBEq, Nat.reduceLT, decide_true, decide_false, List.length, List.length_cons, List.length_nil, Nat.reduceAdd, Bool.and_self, Bool.and_true, and_true, true_and, numF] <;> try simp)) (by (simp only [setn, List.nil_append, List.cons_append, leF, leH_nil, leH_cons, leF_nil, lk, scp, scpL, scpO, resF, resH, resO, resV, resVL, nth, Nat.reduceBEq, Nat.reduceLT, decide_true, decide_false, List.length, List.length_cons, List.length_nil, Nat.reduceAdd, Bool.and_self, Bool.and_true, and_true, true_and, numF] <;> try simp)))⟩, fun h => ?_⟩
   ·by_cases ek : k = i
    ·subst ek; exact of_decide_eq_true h
    ·exact hlo k (by omega) hk2
   ·have hpa : putAt D.es e.line = i := putAt_is hi hlo fun _ => of_decide_eq_false h
    refine ⟨⟨by omega, by omega, by omega⟩, esV (D.es.take i), row_take hE (by omega), ⟨by omega, by omega⟩, fun A1 c1 g1 => ⟨⟨by omega, by omega⟩, fun A2 c2 => ⟨⟨by omega, by omega⟩, esV (D.es.drop i), row_drop hE (by omega) hcap, ⟨by omega, by omega⟩, fun A3 c3 => leaf hpa _ A3 c3 fun W hW => hW.pick [0, 2] (by decide)⟩⟩⟩
  ·have hie : i = D.es.length := by have := of_decide_eq_false hge; omega
   have hpa : putAt D.es e.line = i := putAt_is hi hlo fun h => by omega
   rw [Int.toNat_natCast]
   refine ⟨⟨by omega, by omega, by omega⟩, esV (D.es.take i), row_take hE (by omega), ⟨by omega, by omega⟩, fun A1 c1 g1 => ⟨⟨by omega, by omega⟩, fun A2 c2 => ⟨⟨by omega, by omega⟩, esV (D.es.drop i), row_drop hE (by omega) hcap, ⟨by omega, by omega⟩, fun A3 c3 => leaf hpa _ A3 c3 fun W hW => hW.pick [0, 2] (by decide)⟩⟩⟩
end Go.Proofs.Ytimmobbginjkfaa
