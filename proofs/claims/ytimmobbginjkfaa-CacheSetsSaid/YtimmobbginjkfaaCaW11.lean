/- CacheSets, CacheBack: alive; calls of New and All. -/
import Derived.Test.YtimmobbginjkfaaCaW8
import Derived.Test.YtimmobbginjkfaaCaW9
import Derived.Test.YtimmobbginjkfaaCaW10
import Derived.Test.YtimmobbginjkfaaCaCodeL
set_option linter.unusedSimpArgs false
set_option linter.unusedVariables false
set_option linter.unnecessarySimpa false
namespace Go.Proofs.Ytimmobbginjkfaa
open Go Go.Sx Go.Ca
set_option maxRecDepth 100000
theorem call_all {C : Cx} {E : Env} {d : Option Nat} {args : List Operand} {l : List XS} {k : List KI} {F : List (Nat × SV)} (gc gs : Nat) (c : Ca) (ok : CaOk c) (r : List SO) (hP : C.P = Try.prog) (hargs : denL (caF gc gs c ++ r) (evL F args) = some [.pointer (some ⟨gc, 0, none⟩)])
  (next : ∀ (es : List En) (B : Option Addr) (bc : Nat), es.Perm (hlTo c c.n) → (es.Pairwise fun x y => x.line ≤ y.line) → G C E (.ops l :: k) { F := putF F d (.own (caF gc gs c ++ r).length 0), H := (caF gc gs c ++ r) ++ [.own 44 0 21 B es.length bc (esV es)] }) :
  G C E (.ops ({ dst := d, guard := none, i := .call 11 args } :: l) :: k) { F := F, H := caF gc gs c ++ r } := by
 refine call_rule hargs (R := fun W v W' => ∃ (es : List En) (B : Option Addr) (bc : Nat), es.Perm (hlTo c c.n) ∧ (es.Pairwise fun x y => x.line ≤ y.line) ∧ v = .slice B es.length bc ∧ HeapOk ⟨W, W.heap.size, fps (caF gc gs c), 0, []⟩ (caF gc gs c ++ [.own 44 0 21 B es.length bc (esV es)]) W') (fun W hW => ?_) fun W v W' hW ⟨es, B, bc, hp, hs, hv, hk⟩ => ?_
 ·rw [hP]
  exact all11 gc gs c ok W W.heap.size _ 0 [] (hW.lend (caF_pre gc gs c) 0 [])
 ·refine ⟨.own (caF gc gs c ++ r).length 0, _, ?_, HExt.push _ _, unlendN hW hk (caF_pre gc gs c), next es B bc hp hs⟩
  rw [hv]
  simp only [Is]
  exact ⟨44, 0, 21, B, es.length, bc, esV es, by rw [nth_eq]; simp, Nat.le_refl _, ⟨_, _, _, rfl⟩, fun _ => rfl⟩
def d1 : Nat → Int := fun k => if k = 0 then 1 else 0
def aC0 : Ca := ⟨1, 2, 0, fun _ => zE⟩
def aC1 : Ca := fillC aC0 0 1 zF
def aC2 : Ca := fillC aC1 5 2 d1
def aC3 : Ca := wordC aC2 0
def aC4 : Ca := fillC aC3 7 1 zF
def aC5 : Ca := markC aC4 0 false
def aC6 : Ca := markC aC5 7 false
theorem aOk0 : CaOk aC0 := ⟨by decide, by decide, by decide, by decide, by decide, by decide⟩
theorem aOk1 : CaOk aC1 := (fill_like _ _ _ _).ok aOk0 (by decide)
theorem aOk2 : CaOk aC2 := (fill_like _ _ _ _).ok aOk1 (of_decide_eq_true (by kernel_rfl))
theorem aOk3 : CaOk aC3 := (word_like _ _).ok aOk2 (of_decide_eq_true (by kernel_rfl))
theorem aOk4 : CaOk aC4 := (fill_like _ _ _ _).ok aOk3 (of_decide_eq_true (by kernel_rfl))
theorem aOk5 : CaOk aC5 := (mark_like _ _ _).ok aOk4 (of_decide_eq_true (by kernel_rfl))
theorem aOk6 : CaOk aC6 := (mark_like _ _ _).ok aOk5 (of_decide_eq_true (by kernel_rfl))
theorem aW : wordV aC2 0 = .tuple #[.int .u64 0, .int .i64 0] := by kernel_rfl
theorem aF4 : fillV aC3 7 1 = .tuple #[.agg (enV ⟨5, 2, false, false, d1, zF, 2⟩).toArray, .bool true, .int .i64 0] := by kernel_rfl
theorem aF7 : fillV aC6 9 1 = .tuple #[.agg (enV zE).toArray, .bool false, .int .i64 22] := by kernel_rfl
def enSV (e : En) : List SV := [.val (.int .i64 e.line), .val (.int .i64 e.st), .val (.bool e.rd), .val (.bool e.wr), .val (.int .u64 (e.d 0)), .val (.int .u64 (e.d 1)), .val (.int .u64 (e.d 2)), .val (.int .u64 (e.d 3)), .val (.int .u64 (e.d 4)), .val (.int .u64 (e.d 5)), .val (.int .u64 (e.d 6)), .val (.int .u64 (e.d 7)), .val (.int .u64 (e.o 0)), .val (.int .u64 (e.o 1)), .val (.int .u64 (e.o 2)), .val (.int .u64 (e.o 3)), .val (.int .u64 (e.o 4)), .val (.int .u64 (e.o 5)), .val (.int .u64 (e.o 6)), .val (.int .u64 (e.o 7)), .val (.int .i64 e.used)]
theorem enSV_is (H : List SO) (e : En) : Is H (.agg (enSV e)) (.agg (enV e).toArray) := by simp only [Is]; exact ⟨enV e, by simp [enSV, enV, IsL, Is], rfl⟩
theorem alive7 (w : World) : CallsV Try.prog 7 [] w fun v w' => v = .bool true ∧ Fresh w w' := by
 refine calls_go (keep := K7) (nt := 67) (svs := []) Try.func7 x7 n7 (by simp) (by simp [IsL, Is]) fun R hR => ?_
 (refine Y_go 600 ?_; dsimp only [X7, numF, zq9r, zq9q, Y_k, zq4u, zq8p, zq6p, YK, zq8t, zq9i, normF, zq6n, Nat.reduceBEq, zq6k, zq6l, zq6m, zq86, zq8a, zq9y, t7n8, T7n8, zq9j])
 refine call_rule (vs := [.int .i64 1, .int .i64 2]) rfl (R := fun W v W' => ∃ gc gs, v = .tuple #[.pointer (some ⟨gc, 0, none⟩), .int .i64 0] ∧ HeapOk ⟨W, W.heap.size, [], 28, []⟩ (caF gc gs aC0) W') (fun W hW => (new8 1 2 W).mono ?_) fun W v W' hW ⟨gc, gs, hv, hh⟩ => ?_
 ·rintro v W' (⟨h, _⟩ | ⟨c, gc, gs, h, hv, hh⟩)
  ·cases h
  ·injection h with h
   subst h
   exact ⟨gc, gs, hv, hh⟩
 refine ⟨.tup [.ptr 0 0, .val (.int .i64 0)], caF gc gs aC0, by rw [hv]; simp [Is, IsL, caF, blk, nth, SO.blk], HExt.nilTo _, heapJoin (H := []) (H2' := caF gc gs aC0) hW hh rfl fun e he => hh.ent he, ?_⟩
 clear hh hv hW
 dsimp only [zq8t, caF]
 (refine Y_go 600 ?_; dsimp only [Y_k, zq4u, zq8o, zq6n, Nat.reduceBEq, zq6k, YK, zq8t, zq5j, zq2f, nth, zq2e, zq6l, zq9i, normF, zq6m, zq86, zq87, zq8c, zq8a, zq9y, t7n7, T7n7, zq9r, zq9q, zq5g, List.map, zq6q, zq22, zq25, zq9j])
 refine call_ca gc gs aC0 aC1 _ .unk [] rfl rfl (vs := [.pointer (some ⟨gc, 0, none⟩), .int .i64 0, .int .i64 1, .agg (dV zF).toArray]) (fun W _ hh => fill19 gc gs aC0 aOk0 0 1 zF hh) (fun _ => trivial) ?_
 dsimp only [zq8t, caF, List.cons_append, List.nil_append]
 (refine Y_go 600 ?_; dsimp only [zq9i, normF, zq6n, Nat.reduceBEq, zq6l, zq6k, zq6m, zq86, zq87, zq8c, zq8a, zq9y, t7n6, T7n6, zq9r, zq9q, Y_k, zq4u, zq8o, YK, zq8t, zq5g, List.map, zq6q, zq21, zq8p, zq7u, zq73, zq0a, dropL, takeL, zq20, splice, setn, zq22, zq25, zq9j])
 refine call_ca gc gs aC1 aC2 _ .unk [] rfl (vs := [.pointer (some ⟨gc, 0, none⟩), .int .i64 5, .int .i64 2, .agg (dV d1).toArray]) rfl (fun W _ hh => fill19 gc gs aC1 aOk1 5 2 d1 hh) (fun _ => trivial) ?_
 dsimp only [zq8t, caF, List.cons_append, List.nil_append]
 (refine Y_go 600 ?_; dsimp only [zq9i, normF, zq6n, Nat.reduceBEq, zq6l, zq6k, zq6m, zq86, zq87, zq8c, zq8a, zq9y, t7n5, T7n5, zq9r, zq9q, Y_k, zq4u, zq8o, YK, zq8t, zq9j])
 refine call_ca gc gs aC2 aC3 (.tuple #[.int .u64 0, .int .i64 0]) (.tup [.val (.int .u64 0), .val (.int .i64 0)]) [] rfl (vs := [.pointer (some ⟨gc, 0, none⟩), .int .i64 0]) rfl (fun W _ hh => by rw [← aW]; exact word14 gc gs aC2 aOk2 0 hh) (fun _ => by simp [Is, IsL]) ?_
 dsimp only [zq8t, caF, List.cons_append, List.nil_append]
 (refine Y_go 600 ?_; dsimp only [Y_k, zq4u, zq8o, zq6n, Nat.reduceBEq, zq6k, YK, zq8t, zq5j, zq2f, nth, zq2e, zq6l, zq9i, normF, zq6m, zq86, zq87, zq8c, zq8a, zq9y, t7n4, T7n4, zq9r, zq9q, zq5g, List.map, zq6q, zq22, zq25, zq9j])
 refine call_ca gc gs aC3 aC4 (.tuple #[.agg (enV ⟨5, 2, false, false, d1, zF, 2⟩).toArray, .bool true, .int .i64 0]) (.tup [.agg (enSV ⟨5, 2, false, false, d1, zF, 2⟩), .val (.bool true), .val (.int .i64 0)]) [] rfl (vs := [.pointer (some ⟨gc, 0, none⟩), .int .i64 7, .int .i64 1, .agg (dV zF).toArray]) rfl (fun W _ hh => by rw [← aF4]; exact fill19 gc gs aC3 aOk3 7 1 zF hh) (fun H => ?_) ?_
 ·exact ⟨_, ⟨_, _, enSV_is H _, ⟨_, _, rfl, ⟨_, _, rfl, rfl, rfl⟩, rfl⟩, rfl⟩, rfl⟩
 dsimp only [enSV, zq8t, caF, List.cons_append, List.nil_append]
 (refine Y_go 600 ?_; dsimp only [Y_k, zq4u, zq8o, zq6n, Nat.reduceBEq, zq6k, YK, zq8t, zq5j, zq2f, nth, zq2e, zq6l, zq5e, List.length_cons, List.length_nil, Nat.reduceAdd, List.map, zq6q, zq6p, List.cons_append, List.nil_append, zq5d, zq7t, zq8l, zq73, zq8m, zq7g, zq8k, zq0a, zq1x, zq1t, dropL, takeL, zq1r, splice, setn, zq8s, zq9i, normF, zq6m, zq86, zq87, zq8c, zq8a, zq9y, t7n3, T7n3, zq9r, zq9q, zq9j])
 intro g5
 refine call_ca gc gs aC4 aC5 _ .unk [_] rfl (vs := [.pointer (some ⟨gc, 0, none⟩), .int .i64 0, .bool false]) rfl (fun W _ hh => mark12 gc gs aC4 aOk4 0 false hh) (fun _ => trivial) ?_
 dsimp only [zq8t, caF, List.cons_append, List.nil_append]
 (refine Y_go 600 ?_; dsimp only [zq9i, normF, zq6n, Nat.reduceBEq, zq6l, zq6k, zq6m, zq86, zq87, zq8c, zq8a, zq9y, t7n2, T7n2, zq9r, zq9q, Y_k, zq4u, zq8o, YK, zq8t, zq9j])
 refine call_ca gc gs aC5 aC6 _ .unk [_] rfl (vs := [.pointer (some ⟨gc, 0, none⟩), .int .i64 7, .bool false]) rfl (fun W _ hh => mark12 gc gs aC5 aOk5 7 false hh) (fun _ => trivial) ?_
 dsimp only [zq8t, caF, List.cons_append, List.nil_append]
 (refine Y_go 600 ?_; dsimp only [zq9i, normF, zq6n, Nat.reduceBEq, zq6l, zq6k, zq6m, zq86, zq87, zq8c, zq8a, zq9y, t7n1, T7n1, zq9r, zq9q, Y_k, zq4u, zq8o, YK, zq8t, zq5g, List.map, zq6q, zq22, zq25, zq9j])
 refine call_ca gc gs aC6 (fillC aC6 9 1 zF) (.tuple #[.agg (enV zE).toArray, .bool false, .int .i64 22]) (.tup [.agg (enSV zE), .val (.bool false), .val (.int .i64 22)]) [_] rfl (vs := [.pointer (some ⟨gc, 0, none⟩), .int .i64 9, .int .i64 1, .agg (dV zF).toArray]) rfl (fun W _ hh => by rw [← aF7]; exact fill19 gc gs aC6 aOk6 9 1 zF hh) (fun H => ?_) ?_
 ·exact ⟨_, ⟨_, _, enSV_is H _, ⟨_, _, rfl, ⟨_, _, rfl, rfl, rfl⟩, rfl⟩, rfl⟩, rfl⟩
 dsimp only [enSV, zq8t, caF, List.cons_append, List.nil_append]
 (refine Y_go 600 ?_; dsimp only [Y_k, zq4u, zq8o, zq6n, Nat.reduceBEq, zq6k, YK, zq8t, zq5j, zq2f, nth, zq2e, zq6l, zq5e, List.length_cons, List.length_nil, Nat.reduceAdd, List.map, zq6q, zq6p, List.cons_append, List.nil_append, zq5d, zq7t, zq8l, zq73, zq8m, zq7g, zq8k, zq0a, zq1x, zq1t, dropL, takeL, zq1r, splice, setn, zq8s, zq9i, normF, zq87, zq8c, zq8a, zq9y, t7n0, T7n0, zq9r, zq9q, zq50, zq8p, zq04, zq92, zq9b, zq0i, zq9c, Y_gk, zq6d, YR, zq69, zq4v, zq0b, zq5c, zq1o, zq1k, zq19, zq17, zq5g, zq21, zq7u, zq20, zq22, zq25, zq5s, zq3o, eqSV, zq8w, zq8v, zq96, zq3q, zq9x, YS, zq6b, zq0c])
 intro g9
 repeat' first
  | (refine ⟨fun q => ?_, fun q => ?_⟩ <;> try exact absurd q (by decide))
  | exact ret_rule (vs := [.bool true]) r7 rfl rfl fun W hW => hR _ _ ⟨rfl, hW.fresh'⟩
  | fail
end Go.Proofs.Ytimmobbginjkfaa
