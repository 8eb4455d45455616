/- CacheBack: the law's function. -/
import Derived.Test.YtimmobbginjkfaaCaW11
import Derived.Test.YtimmobbginjkfaaCaLaw
import Derived.Test.YtimmobbginjkfaaCaCodeL
set_option linter.unusedSimpArgs false
set_option linter.unusedVariables false
set_option linter.unnecessarySimpa false
namespace Go.Proofs.Ytimmobbginjkfaa
open Go Go.Sx Go.Ca
set_option maxRecDepth 100000
def prV2 (p : Int × Int) : List Value := [.int .i64 p.1, .int .u64 p.2]
def cellsP (l : List (Int × Int)) : List Value := l.flatMap prV2
theorem cellsP_len (l : List (Int × Int)) : (cellsP l).length = l.length * 2 := flat_len (f := prV2) (sz := 2) (fun _ => rfl) l
theorem cellsP_get (l : List (Int × Int)) {i k : Nat} (hi : i < l.length) (hk : k < 2) : (cellsP l)[i * 2 + k]? = (prV2 l[i])[k]? := flat_get (f := prV2) (sz := 2) (fun _ => rfl) l hi hk
theorem newC_zero {sets ways : Int} {c : Ca} (h : newC sets ways = some c) : ∀ j, c.sl j = zE := by
 unfold newC at h
 split at h
 ·cases h
 ·injection h with h; subst h; intro j; rfl
theorem newC_uses {sets ways : Int} {c : Ca} (h : newC sets ways = some c) : c.uses = 0 := by
 unfold newC at h
 split at h
 ·cases h
 ·injection h with h; subst h; rfl
theorem play_sw (c : Ca) : ∀ l : List Sp, (playC c l).sets = c.sets ∧ (playC c l).ways = c.ways := by
 intro l
 induction l generalizing c with
 | nil => exact ⟨rfl, rfl⟩
 | cons x l ih =>
  have h := step_like c x
  have := ih (stepC c x)
  exact ⟨this.1.trans h.s, this.2.trans h.w⟩
theorem play_n (c : Ca) (l : List Sp) : (playC c l).n = c.n := by
 unfold Ca.n; rw [(play_sw c l).1, (play_sw c l).2]
theorem law3 (sets ways : Int) (A P : Option Addr) (ac pc : Nat) (l : List Sp) (ps : List (Int × Int)) (w : World) (hA : RowAt w A (cellsS l)) (hP : RowAt w P (cellsP ps)) :
  CallsV Try.prog 3 [.agg #[.int .i64 sets, .int .i64 ways], .slice A l.length ac, .slice P ps.length pc] w fun v w' => v = .bool true ∧ Fresh w w' := by
 refine calls_go (keep := K3) (nt := 138) (svs := [.agg [.val (.int .i64 sets), .val (.int .i64 ways)], .val (.slice A l.length ac), .val (.slice P ps.length pc)]) Try.func3 x3 n3 (by simp) (by simp [IsL, Is]) fun R hR => ?_
 (refine Y_go 600 ?_; dsimp only [X3, numF, Nat.reduceAdd, zq9r, zq9q, Y_k, zq5f, zq8o, zq6n, Nat.reduceBEq, zq6k, zq7t, List.length_cons, List.length_nil, zq8l, zq73, zq8m, zq8k, zq0a, zq1z, List.nil_append, YK, zq8t, zq4u, zq8p, zq6p, zq9i, normF, zq6l, zq6m, zq86, zq8a, zq8c, zq87, zq88, zq9y, t3n28, T3n28, zq9j])
 intro gz
 refine call_val (vs := []) rfl (R := fun v => v = .bool true) (fun W hW => alive7 W) fun v hv => ⟨.bt, by rw [hv]; simp [Is], ?_⟩
 dsimp only [zq8t]
 (refine Y_go 600 ?_; dsimp only [Y_k, zq4u, zq8o, zq6n, Nat.reduceBEq, zq6k, YK, zq8t, zq9i, normF, zq6l, zq6m, zq86, zq89, zq8a, zq8c, zq87, zq88, zq9y, t3n27, T3n27, zq9r, zq9q, zq59, zq8p, zq6q, zq06, zq10, Int.reduceToNat, Nat.reduceMul, Nat.add_zero, zq5c, zq1o, nth, zq1k, List.length_cons, List.length_nil, Nat.reduceAdd, dropL, takeL, zq19, zq18, zq9j])
 have yes : ∀ (E : Env) s, E.marks = [] → Over ⟨w, w.heap.size, [], 138, []⟩ E → denAll s.H s.F [6] = some [.bool true] → RetG (cxOf Try.prog Try.f3 K3 T3 R) E s := fun E s hm ho h1 => ret_rule (vs := [.bool true]) r3 hm h1 fun W hW => hR _ _ ⟨rfl, (ho.heap hW).fresh'⟩
 refine ⟨by decide, by decide, ?_⟩
 refine G.le (E' := ⟨w, w.heap.size, [], 138, []⟩) rfl (s' := { F := [(23, .val (.int .i64 ways)), (21, .val (.int .i64 sets)), (1, .val (.slice A l.length ac)), (2, .val (.slice P ps.length pc)), (6, .bf), (7, .bt)], H := [] }) (fun a W rep => rep.le (by (simp only [setn, List.nil_append, List.cons_append, leF, leH_nil, leH_cons, leF_nil, lk, scp, scpL, scpO, resF, resH, resO, resV, resVL, nth, Nat.reduceBEq, Nat.reduceLT, decide_true, decide_false, List.length, List.length_cons, List.length_nil, Nat.reduceAdd, Bool.and_self, Bool.and_true, and_true, true_and, numF] <;> try simp)) (by (simp only [setn, List.nil_append, List.cons_append, leF, leH_nil, leH_cons, leF_nil, lk, scp, scpL, scpO, resF, resH, resO, resV, resVL, nth, Nat.reduceBEq, Nat.reduceLT, decide_true, decide_false, List.length, List.length_cons, List.length_nil, Nat.reduceAdd, Bool.and_self, Bool.and_true, and_true, true_and, numF] <;> try simp))) ?_
 refine call_rule (vs := [.int .i64 sets, .int .i64 ways]) rfl (R := fun W v W' => (newC sets ways = none ∧ v = .tuple #[.pointer none, .int .i64 2] ∧ Fresh W W') ∨ ∃ c gc gs, newC sets ways = some c ∧ v = .tuple #[.pointer (some ⟨gc, 0, none⟩), .int .i64 0] ∧ HeapOk ⟨W, W.heap.size, [], 28, []⟩ (caF gc gs c) W') (fun W hW => new8 sets ways W) fun W v W' hW hr => ?_
 rcases hr with ⟨_, hv, hf⟩ | ⟨c, gc, gs, hn, hv, hh⟩
 ·refine ⟨.tup [.val (.pointer none), .val (.int .i64 2)], _, by rw [hv]; simp [Is, IsL], HExt.refl _, hW.freshK hf, ?_⟩
  dsimp only [zq8t]
  (refine Y_go 600 ?_; dsimp only [Y_k, zq4u, zq8o, zq6n, Nat.reduceBEq, zq6k, YK, zq8t, zq5j, zq2f, nth, zq2e, zq6l, zq9i, normF, zq6m, zq86, zq87, zq89, zq8a, zq9y, t3n26, T3n26, zq9r, zq9q, zq50, zq8p, zq6q, zq04, zq92, zq9b, zq0i, zq9d, Y_gk, zq6e, YS, zq6a, zq4v, zq6o, zq0b, zq9s, zq6f, YC, t3n0, T3n0, zq9x, YR, zq6c, zq55, zq0r, zq9g, zq0c, zq53, zq0m, zq6g, zq9p, t3n25, T3n25, zq9j])
  exact ⟨fun _ => yes _ _ rfl (Over.refl _) rfl, fun h => absurd h (by decide)⟩
 refine ⟨.tup [.ptr 0 0, .val (.int .i64 0)], caF gc gs c, by rw [hv]; simp [Is, IsL, caF, blk, nth, SO.blk], HExt.nilTo _, heapJoin (H := []) (H2' := caF gc gs c) hW hh rfl fun e he => hh.ent he, ?_⟩
 clear hh hv hW
 have ok := newC_ok hn
 have hz : ∀ j, c.sl j = zE := newC_zero hn
 have hu : c.uses = 0 := newC_uses hn
 clear hn
 dsimp only [zq8t, caF]
 (refine Y_go 600 ?_; dsimp only [Y_k, zq4u, zq8o, zq6n, Nat.reduceBEq, zq6k, YK, zq8t, zq5j, zq2f, nth, zq2e, zq6l, zq9i, normF, zq6m, zq86, zq87, zq8c, zq89, zq8a, zq9y, t3n26, T3n26, zq9r, zq9q, zq50, zq8p, zq6q, zq04, zq92, zq9b, zq0i, zq9d, Y_gk, zq6e, YS, zq6a, zq4v, zq6o, zq0b, zq9s, zq6f, YC, t3n0, T3n0, zq9x, YR, zq6c, zq55, zq0r, zq9g, zq0c, zq53, zq0m, zq6g, zq9p, t3n25, T3n25, zq9j])
 refine ⟨fun h => absurd h (by decide), fun _ => ⟨fun _ => yes _ _ rfl (Over.refl _) rfl, fun h1 => ⟨fun _ => yes _ _ rfl (Over.refl _) rfl, fun h2 => ?_⟩⟩⟩
 have hl : l.length ≤ 400 := by have := of_decide_eq_false h1; omega
 have hpl : ps.length ≤ 400 := by have := of_decide_eq_false h2; omega
 have hAE : RowE ⟨w, w.heap.size, [], 138, []⟩ A (cellsS l) := hA.toE (st := []) (by simp) 138 []
 have hPE : RowE ⟨w, w.heap.size, [], 138, []⟩ P (cellsP ps) := hP.toE (st := []) (by simp) 138 []
 refine call_ca gc gs c (playC c l) _ .unk [] rfl (vs := [.pointer (some ⟨gc, 0, none⟩), .slice A l.length ac]) rfl (fun W hW hh => play9 gc gs c ok A ac l (by omega) (hAE.over (HeapOk.rebase (H := caF gc gs c) hW 0 []).2) hh) (fun _ => trivial) ?_
 obtain ⟨ok1, hu1⟩ := play_ok ok l (by omega)
 dsimp only [zq8t, caF, List.cons_append, List.nil_append]
 (refine Y_go 600 ?_; dsimp only [zq9i, normF, zq6n, Nat.reduceBEq, zq6l, zq6m, zq6k, zq86, zq8a, zq87, zq8c, zq89, zq9y, t3n24, T3n24, zq9r, zq9q, Y_k, zq4u, zq8o, YK, zq8t, zq9j])
 refine call_ca gc gs (playC c l) (comC (playC c l)) _ .unk [] rfl (vs := [.pointer (some ⟨gc, 0, none⟩)]) rfl (fun W hW hh => commit10 gc gs (playC c l) ok1 hh) (fun _ => trivial) ?_
 have ok2 : CaOk (comC (playC c l)) := (com_like _).ok ok1 (by omega)
 have hn1 : (comC (playC c l)).n = c.n := play_n c l
 have iv2 : Inv (comC (playC c l)) := (com_sub _).inv (play_inv ok (inv_zero hz) l (by omega))
 have hcl := com_clr (playC c l)
 have hu2 : (comC (playC c l)).uses ≤ 400 := by show (playC c l).uses ≤ 400; omega
 dsimp only [zq8t, caF, List.cons_append, List.nil_append]
 (refine Y_go 600 ?_; dsimp only [zq9i, normF, zq6n, Nat.reduceBEq, zq6l, zq6m, zq6k, zq86, zq8a, zq87, zq8c, zq89, zq9y, t3n23, T3n23, zq9r, zq9q, Y_k, zq4u, zq8o, YK, zq8t, zq9j])
 refine call_all gc gs (comC (playC c l)) ok2 [] rfl rfl fun es B bc hp hs => ?_
 rw [hn1] at hp
 have hel : es.length ≤ 32 := by rw [hp.length_eq]; exact Nat.le_trans (hlTo_len _ _) ok.n32
 generalize hc1 : comC (playC c l) = c1 at *
 dsimp only [caF, List.cons_append, List.nil_append, List.length_cons, List.length_nil, Nat.reduceAdd, zq8t]
 (refine Y_go 600 ?_; dsimp only [Y_k, zq4u, zq8o, zq6n, Nat.reduceBEq, zq6k, YK, zq8t, zq9i, normF, zq6l, zq6m, zq86, zq8a, zq8f, zq87, zq8c, zq89, zq9y, t3n22, T3n22, zq9r, zq9q, zq8p, zq6q, zq9t, zq9v])
 refine G.le (E' := ⟨w, w.heap.size, [], 138, []⟩) rfl (s' := { F := [(2, .val (.slice P ps.length pc)), (6, .bf), (7, .bt), (8, .ptr 0 0), (10, .val (.slice B es.length bc)), (11, .val (.int .i64 0))], H := caF gc gs c1 ++ [.own 44 0 21 B es.length bc (esV es)] }) (fun a W rep => (rep.plain 10 rfl rfl).le (by simp only [caF]; (simp only [setn, List.nil_append, List.cons_append, leF, leH_nil, leH_cons, leF_nil, lk, scp, scpL, scpO, resF, resH, resO, resV, resVL, nth, Nat.reduceBEq, Nat.reduceLT, decide_true, decide_false, List.length, List.length_cons, List.length_nil, Nat.reduceAdd, Bool.and_self, Bool.and_true, and_true, true_and, numF] <;> try simp)) (by simp only [caF]; (simp only [setn, List.nil_append, List.cons_append, leF, leH_nil, leH_cons, leF_nil, lk, scp, scpL, scpO, resF, resH, resO, resV, resVL, nth, Nat.reduceBEq, Nat.reduceLT, decide_true, decide_false, List.length, List.length_cons, List.length_nil, Nat.reduceAdd, Bool.and_self, Bool.and_true, and_true, true_and, numF] <;> try simp))) ?_
 refine G.cut (H1 := caF gc gs c1) (caF_scp gc gs c1) (by simp only [caF]; (simp only [setn, List.nil_append, List.cons_append, leF, leH_nil, leH_cons, leF_nil, lk, scp, scpL, scpO, resF, resH, resO, resV, resVL, nth, Nat.reduceBEq, Nat.reduceLT, decide_true, decide_false, List.length, List.length_cons, List.length_nil, Nat.reduceAdd, Bool.and_self, Bool.and_true, and_true, true_and, numF] <;> try simp)) fun W1 hW1 hov => ?_
 have hst : fps (caF gc gs c1) = [gc, gs] := rfl
 have hEE : RowE ⟨W1, W1.heap.size, [gc, gs], 138, []⟩ B (esV es) := hW1.offO (t := 44) (ver := 0) (sz := 21) (n := es.length) (c := bc) (by simp) 138 []
 replace hPE := hPE.over hov
 rw [hst] at hov hPE ⊢
 clear hW1 hAE
 have yes1 : ∀ s, denAll s.H s.F [6] = some [.bool true] → RetG (cxOf Try.prog Try.f3 K3 T3 R) ⟨W1, W1.heap.size, [gc, gs], 138, []⟩ s := fun s h1 => ret_rule (vs := [.bool true]) r3 rfl h1 fun W hW => hR _ _ ⟨rfl, (hov.heap hW).fresh'⟩
 have sP : 0 < ps.length → P.isSome = true := fun h => RowE.isSome hPE (j := 0) (by rw [cellsP_len]; omega)
 have hb1 : BackR c1 (backs c1 ps) := BackR.backs ps ⟨rfl, rfl, fun j => ⟨rfl, rfl⟩, fun j hj hs => ⟨rfl, .inl ⟨(hcl j hj hs).2.1, rfl⟩⟩⟩
 refine loop_go (α := Nat) (fun i => i ≤ ps.length) (fun _ => ⟨W1, W1.heap.size, [gc, gs], 138, []⟩)
  (fun i => { F := [(2, .val (.slice P ps.length pc)), (6, .bf), (7, .bt), (8, .ptr 0 0), (10, .val (.slice B es.length bc)), (11, .val (.int .i64 i))], H := caF gc gs (backs c1 (ps.take i)) }) (fun i => ps.length - i) (fun _ => rfl) ?start ?round
 case start =>
  intro a W rep
  exact ⟨0, Nat.zero_le _, rep.le (by simp only [caF]; (simp only [setn, List.nil_append, List.cons_append, leF, leH_nil, leH_cons, leF_nil, lk, scp, scpL, scpO, resF, resH, resO, resV, resVL, nth, Nat.reduceBEq, Nat.reduceLT, decide_true, decide_false, List.length, List.length_cons, List.length_nil, Nat.reduceAdd, Bool.and_self, Bool.and_true, and_true, true_and, numF] <;> try simp)) (by simp only [caF, show backs c1 (ps.take 0) = c1 from rfl]; (simp only [setn, List.nil_append, List.cons_append, leF, leH_nil, leH_cons, leF_nil, lk, scp, scpL, scpO, resF, resH, resO, resV, resVL, nth, Nat.reduceBEq, Nat.reduceLT, decide_true, decide_false, List.length, List.length_cons, List.length_nil, Nat.reduceAdd, Bool.and_self, Bool.and_true, and_true, true_and, numF] <;> try simp))⟩
 case round =>
  rintro i hi I again
  have hbo := backs_ok ok2 (ps.take i) (by rw [List.length_take]; omega)
  rw [List.length_take] at hbo
  simp only [caF]
  (refine Y_go 600 ?_; dsimp only [zq9y, t3n9, T3n9, zq9r, zq9q, Y_k, zq4u, zq8o, zq6n, Nat.reduceBEq, zq6l, zq6k, YK, zq8t, zq55, zq0r, zq50, zq04, zq92, zq9b, zq0i, zq9e, zq9i, normF, zq6m, zq86, zq87, zq8c, zq89, zq8a, zq9s, zq6h, zq8x, YC, zq9p, t3n8, T3n8, zq9t, zq58, zq06, zq0w, zq5a, zq16, Nat.add_zero, zq5c, zq1p, zq1c, List.nil_append, zq1b, zq18, zq8p, zq6q, zq9u, popTo, zq6i, YP, t3n7, T3n7, zq4w, zq0e, zqa2, t3n6, T3n6, zq4x, zq0f, zq9j, t3n21, T3n21])
  refine ⟨fun hlt => ?_, fun hge => ?_⟩
  rotate_left
  ·have hie : i = ps.length := by have := of_decide_eq_false hge; omega
   subst hie
   rw [List.take_of_length_le (Nat.le_refl _)] at hbo ⊢
   obtain ⟨ok3, hu3⟩ := hbo
   clear again I
   have hbs := fun (ns : List En) => back_same (ns := ns) iv2 hcl (es := es) (ps := ps) (by rw [hn1]; exact hp) hs
   have hn3 : (backs c1 ps).n = c.n := (n_of hb1.s hb1.w).trans hn1
   generalize backs c1 ps = c2 at ok3 hu3 hbs hn3 ⊢
   refine call_ca gc gs c2 (disC c2) _ .unk [] rfl (vs := [.pointer (some ⟨gc, 0, none⟩)]) rfl (fun W hW hh => discard15 gc gs c2 ok3 hh) (fun _ => trivial) ?_
   have ok4 : CaOk (disC c2) := (dis_like _).ok ok3 (by omega)
   have hn4 : (disC c2).n = c.n := hn3
   dsimp only [zq8t, caF, List.cons_append, List.nil_append]
   (refine Y_go 600 ?_; dsimp only [zq9i, normF, zq6n, Nat.reduceBEq, zq6l, zq6m, zq6k, zq86, zq8a, zq87, zq8c, zq89, zq9y, t3n20, T3n20, zq9r, zq9q, Y_k, zq4u, zq8o, YK, zq8t, zq9j])
   refine call_all gc gs (disC c2) ok4 [] rfl rfl fun ns B2 bc2 hp2 hs2 => ?_
   rw [hn4] at hp2
   have hnl : ns.length ≤ 32 := by rw [hp2.length_eq]; exact Nat.le_trans (hlTo_len _ _) ok.n32
   obtain ⟨hlen, hsame⟩ := hbs ns (by rw [hn1]; exact hp2) hs2
   dsimp only [caF, List.cons_append, List.nil_append, List.length_cons, List.length_nil, Nat.reduceAdd, zq8t]
   (refine Y_go 600 ?_; dsimp only [Y_k, zq4u, zq8o, zq6n, Nat.reduceBEq, zq6k, YK, zq8t, zq9i, normF, zq6l, zq6m, zq86, zq8a, zq8f, zq87, zq8c, zq89, zq9y, t3n19, T3n19, zq9r, zq9q, zq55, zq0t, nth, zq09, zq08, zq0q, zq0r, zq50, zq04, zq92, zq9b, zq0i, zq9d, zq9s, zq6h, zq8x, YC, t3n10, T3n10, zq8p, zq6p, zq9x, zq9p, t3n18, T3n18, zq6q, zq9t, zq9v])
   refine ⟨fun h => absurd h (by rw [hlen]; simp), fun _ => ?_⟩
   generalize disC c2 = c3 at ok4 hn4 ⊢
   have hEc : ∀ {i k m : Nat} {v : Value} (hi : i < es.length), m = (i : Int).toNat * 21 + k → (enV es[i])[k]? = some v → CellAt ⟨W1, W1.heap.size, [gc, gs], 138, []⟩ B m v := by
    intro i k m v hi hm hk
    have := (List.getElem?_eq_some_iff.1 hk).1
    rw [hm, Int.toNat_natCast]
    exact hEE.cell (by rw [esV_get es hi this]; exact hk)
   have hNc : ∀ {i k m : Nat} {v : Value} (hi : i < ns.length), m = (i : Int).toNat * 21 + k → (enV ns[i])[k]? = some v → (esV ns)[m]? = some v := by
    intro i k m v hi hm hk
    have := (List.getElem?_eq_some_iff.1 hk).1
    rw [hm, Int.toNat_natCast, esV_get ns hi this]; exact hk
   have sE : 0 < es.length → B.isSome = true := fun h => RowE.isSome hEE (j := 0) (by rw [esV_len]; omega)
   refine loop_go (α := Nat) (fun i => i ≤ es.length) (fun _ => ⟨W1, W1.heap.size, [gc, gs], 138, []⟩)
    (fun i => { F := [(6, .bf), (7, .bt), (10, .val (.slice B es.length bc)), (15, .own 2 0), (16, .val (.int .i64 i))], H := caF gc gs c3 ++ [.own 44 0 21 B2 ns.length bc2 (esV ns)] }) (fun i => es.length - i) (fun _ => rfl) ?start2 ?round2
   case start2 =>
    intro a W rep
    exact ⟨0, Nat.zero_le _, rep.le (by simp only [caF]; (simp only [setn, List.nil_append, List.cons_append, leF, leH_nil, leH_cons, leF_nil, lk, scp, scpL, scpO, resF, resH, resO, resV, resVL, nth, Nat.reduceBEq, Nat.reduceLT, decide_true, decide_false, List.length, List.length_cons, List.length_nil, Nat.reduceAdd, Bool.and_self, Bool.and_true, and_true, true_and, numF] <;> try simp)) (by simp only [caF]; (simp only [setn, List.nil_append, List.cons_append, leF, leH_nil, leH_cons, leF_nil, lk, scp, scpL, scpO, resF, resH, resO, resV, resVL, nth, Nat.reduceBEq, Nat.reduceLT, decide_true, decide_false, List.length, List.length_cons, List.length_nil, Nat.reduceAdd, Bool.and_self, Bool.and_true, and_true, true_and, numF] <;> try simp))⟩
   case round2 =>
    rintro i hi I again
    simp only [caF]
    (refine Y_go 600 ?_; dsimp only [List.cons_append, List.nil_append, zq9y, t3n16, T3n16, zq9r, zq9q, Y_k, zq4u, zq8o, zq6n, Nat.reduceBEq, zq6l, zq6k, YK, zq8t, zq55, zq0r, zq50, zq04, zq92, zq9b, zq0i, zq9e, zq9i, normF, zq6m, zq86, zq87, zq8f, zq89, zq8a, zq9s, zq6h, zq8x, YC, zq9p, t3n15, T3n15, zq9t, zq58, zq06, zq0y, nth, zq09, zq08, zq0v, zq5c, zq1q, zq1n, zq1c, zq1d, zq1b, zq17, zq5e, List.length_cons, List.length_nil, Nat.reduceAdd, List.map, zq6q, zq6p, zq5d, zq7t, zq8l, zq73, zq8m, zq7g, zq8k, zq0a, zq1x, zq1t, dropL, takeL, zq1r, splice, setn, zq8s, zq8c, t3n13, T3n13, zq0w, zq5a, zq16, zq1p, zq18, zq14, zq7u, t3n12, T3n12, zq1o, zq1k, zq19, zq5s, zq3o, eqSV, zq8w, zq96, zq3p, t3n11, T3n11, zq8p, zq9x, zqa1, t3n14, T3n14, zq4w, zq0e, zqa2, zq9u, popTo, zq6i, YP, t3n17, T3n17])
    refine ⟨fun hlt => ?_, fun _ => yes1 _ rfl⟩
    have hlt : i < es.length := by have := of_decide_eq_true hlt; omega
    have hn : i < ns.length := by omega
    have hs1 := hsame i hlt hn
    refine ⟨⟨by omega, by omega⟩, _, hNc hn (k := 0) (by omega) rfl, _, hNc hn (k := 1) (by omega) rfl, _, hNc hn (k := 2) (by omega) rfl, _, hNc hn (k := 3) (by omega) rfl, _, hNc hn (k := 4) (by omega) rfl, _, hNc hn (k := 5) (by omega) rfl, _, hNc hn (k := 6) (by omega) rfl, _, hNc hn (k := 7) (by omega) rfl, _, hNc hn (k := 8) (by omega) rfl, _, hNc hn (k := 9) (by omega) rfl, _, hNc hn (k := 10) (by omega) rfl, _, hNc hn (k := 11) (by omega) rfl, _, hNc hn (k := 12) (by omega) rfl, _, hNc hn (k := 13) (by omega) rfl, _, hNc hn (k := 14) (by omega) rfl, _, hNc hn (k := 15) (by omega) rfl, _, hNc hn (k := 16) (by omega) rfl, _, hNc hn (k := 17) (by omega) rfl, _, hNc hn (k := 18) (by omega) rfl, _, hNc hn (k := 19) (by omega) rfl, _, hNc hn (k := 20) (by omega) rfl, ?_⟩
    intro gx
    have hbe : 0 ≤ (i : Int) ∧ (i : Int) < (es.length : Int) ∧ B.isSome = true := ⟨by omega, by omega, sE (by omega)⟩
    refine ⟨hbe, sE (by omega), _, hEc hlt (k := 20) (by omega) rfl, hbe, _, hEc hlt (k := 0) (by omega) rfl, _, hEc hlt (k := 1) (by omega) rfl, _, hEc hlt (k := 2) (by omega) rfl, _, hEc hlt (k := 3) (by omega) rfl, _, hEc hlt (k := 4) (by omega) rfl, _, hEc hlt (k := 5) (by omega) rfl, _, hEc hlt (k := 6) (by omega) rfl, _, hEc hlt (k := 7) (by omega) rfl, _, hEc hlt (k := 8) (by omega) rfl, _, hEc hlt (k := 9) (by omega) rfl, _, hEc hlt (k := 10) (by omega) rfl, _, hEc hlt (k := 11) (by omega) rfl, _, hEc hlt (k := 12) (by omega) rfl, _, hEc hlt (k := 13) (by omega) rfl, _, hEc hlt (k := 14) (by omega) rfl, _, hEc hlt (k := 15) (by omega) rfl, _, hEc hlt (k := 16) (by omega) rfl, _, hEc hlt (k := 17) (by omega) rfl, _, hEc hlt (k := 18) (by omega) rfl, _, hEc hlt (k := 19) (by omega) rfl, _, hEc hlt (k := 20) (by omega) rfl, ?_⟩
    obtain ⟨q1, q2, q3, q4, q5, q6⟩ := hs1
    refine ⟨fun h => absurd h (by rw [q1, q2, q3, q4, q5 0 (by decide), q5 1 (by decide), q5 2 (by decide), q5 3 (by decide), q5 4 (by decide), q5 5 (by decide), q5 6 (by decide), q5 7 (by decide), q6 0 (by decide), q6 1 (by decide), q6 2 (by decide), q6 3 (by decide), q6 4 (by decide), q6 5 (by decide), q6 6 (by decide), q6 7 (by decide)]; simp), fun _ => ⟨((i + 1 : Nat) : Int), ArOk.to (by omega) (by omega) (by omega), lend_rule fun a W rep => again (i + 1) hlt (by omega) a W (rep.le (by simp only [caF]; (simp only [setn, List.nil_append, List.cons_append, leF, leH_nil, leH_cons, leF_nil, lk, scp, scpL, scpO, resF, resH, resO, resV, resVL, nth, Nat.reduceBEq, Nat.reduceLT, decide_true, decide_false, List.length, List.length_cons, List.length_nil, Nat.reduceAdd, Bool.and_self, Bool.and_true, and_true, true_and, numF] <;> try simp)) (by simp only [caF]; (simp only [setn, List.nil_append, List.cons_append, leF, leH_nil, leH_cons, leF_nil, lk, scp, scpL, scpO, resF, resH, resO, resV, resVL, nth, Nat.reduceBEq, Nat.reduceLT, decide_true, decide_false, List.length, List.length_cons, List.length_nil, Nat.reduceAdd, Bool.and_self, Bool.and_true, and_true, true_and, numF] <;> try simp)))⟩⟩
  have hlt : i < ps.length := by have := of_decide_eq_true hlt; omega
  have htk : ps.take (i + 1) = ps.take i ++ [ps[i]] := by rw [List.take_add_one, List.getElem?_eq_getElem hlt]; rfl
  have cp : ∀ k v, (prV2 ps[i])[k]? = some v → CellAt ⟨W1, W1.heap.size, [gc, gs], 138, []⟩ P ((i : Int).toNat * 2 + k) v := by
   intro k v hk
   have := (List.getElem?_eq_some_iff.1 hk).1
   rw [Int.toNat_natCast]
   exact hPE.cell (by rw [cellsP_get ps hlt this]; exact hk)
  generalize ps[i] = p at htk cp
  have hsn := backs_snoc c1 (ps.take i) p
  rw [← htk] at hsn
  have hgo : ∀ c', backs c1 (ps.take (i + 1)) = c' → ∀ (a : Act) (W : World), Rep ⟨W1, W1.heap.size, [gc, gs], 138, []⟩ { F := [(2, .val (.slice P ps.length pc)), (6, .bf), (7, .bt), (8, .ptr 0 0), (10, .val (.slice B es.length bc)), (11, .val (.int .i64 ((i + 1 : Nat) : Int)))], H := caF gc gs c' } a W → I a W := fun c' h a W rep => again (i + 1) hlt (by omega) a W (by rw [h]; exact rep)
  have hadd : ArOk .add .i64 (i : Int) 1 ((i + 1 : Nat) : Int) := ArOk.to (by omega) (by omega) (by omega)
  generalize backs c1 (ps.take i) = ci at hbo hsn ⊢
  obtain ⟨oki, hui⟩ := hbo
  have hbd : 0 ≤ (i : Int) ∧ (i : Int) < (ps.length : Int) ∧ P.isSome = true := ⟨by omega, by omega, sP (by omega)⟩
  have e0 := cp 0 _ rfl
  have e1 := cp 1 _ rfl
  clear cp again
  have hbk : backC ci p = if p.1 < 0 then ci else if inE ci (quo8 p.1) 2 = 0 then wordC (putC (markC ci (quo8 p.1) true) p.1 p.2) p.1 else markC ci (quo8 p.1) true := rfl
  refine ⟨hbd, sP (by omega), _, e0, fun hneg => ?_, fun hpos => ⟨hbd, sP (by omega), _, e0, _, quo8_ok _, ?_⟩⟩
  ·have hneg := of_decide_eq_true hneg
   exact ⟨_, hadd, lend_rule fun a W rep => hgo ci (by rw [hsn, hbk, if_pos hneg]) a W (rep.le (by simp only [caF]; (simp only [setn, List.nil_append, List.cons_append, leF, leH_nil, leH_cons, leF_nil, lk, scp, scpL, scpO, resF, resH, resO, resV, resVL, nth, Nat.reduceBEq, Nat.reduceLT, decide_true, decide_false, List.length, List.length_cons, List.length_nil, Nat.reduceAdd, Bool.and_self, Bool.and_true, and_true, true_and, numF] <;> try simp)) (by simp only [caF]; (simp only [setn, List.nil_append, List.cons_append, leF, leH_nil, leH_cons, leF_nil, lk, scp, scpL, scpO, resF, resH, resO, resV, resVL, nth, Nat.reduceBEq, Nat.reduceLT, decide_true, decide_false, List.length, List.length_cons, List.length_nil, Nat.reduceAdd, Bool.and_self, Bool.and_true, and_true, true_and, numF] <;> try simp)))⟩
  have hpos := of_decide_eq_false hpos
  rw [if_neg hpos] at hbk
  refine call_ca gc gs ci (markC ci (quo8 p.1) true) (.int .i64 (inE ci (quo8 p.1) 2)) (.val (.int .i64 (inE ci (quo8 p.1) 2))) [] rfl (vs := [.pointer (some ⟨gc, 0, none⟩), .int .i64 (quo8 p.1), .bool true]) rfl (fun W hW hh => mark12 gc gs ci oki (quo8 p.1) true hh) (fun _ => by simp [Is]) ?_
  have okm : CaOk (markC ci (quo8 p.1) true) := (mark_like _ _ _).ok oki (by omega)
  have hum := mark_uses ci (quo8 p.1) true
  dsimp only [zq8t, caF, List.cons_append, List.nil_append]
  (refine Y_go 600 ?_; dsimp only [Y_k, zq4u, zq8o, zq6n, Nat.reduceBEq, zq6k, YK, zq8t, zq9i, normF, zq6l, zq6m, zq86, zq8a, zq89, zq87, zq8c, zq9y, t3n5, T3n5, zq9r, zq9q, zq50, zq8p, zq6q, zq04, zq92, zq9b, zq0i, zq9c, zq9s, zq6h, zq8x, YC, t3n4, T3n4, zq58, zq06, zq0w, zq5a, zq16, Nat.add_zero, zq5c, zq1p, zq1c, List.nil_append, zq1b, zq18, zq9j, zq9p, zqa1, t3n7, T3n7, zq4w, zq0e, zqa2])
  refine ⟨fun h0 => ?_, fun h0 => ?_⟩
  rotate_left
  ·exact ⟨_, hadd, lend_rule fun a W rep => hgo _ (by rw [hsn, hbk, if_neg (by simpa using h0)]) a W (rep.le (by simp only [caF]; (simp only [setn, List.nil_append, List.cons_append, leF, leH_nil, leH_cons, leF_nil, lk, scp, scpL, scpO, resF, resH, resO, resV, resVL, nth, Nat.reduceBEq, Nat.reduceLT, decide_true, decide_false, List.length, List.length_cons, List.length_nil, Nat.reduceAdd, Bool.and_self, Bool.and_true, and_true, true_and, numF] <;> try simp)) (by simp only [caF]; (simp only [setn, List.nil_append, List.cons_append, leF, leH_nil, leH_cons, leF_nil, lk, scp, scpL, scpO, resF, resH, resO, resV, resVL, nth, Nat.reduceBEq, Nat.reduceLT, decide_true, decide_false, List.length, List.length_cons, List.length_nil, Nat.reduceAdd, Bool.and_self, Bool.and_true, and_true, true_and, numF] <;> try simp)))⟩
  have h0 : inE ci (quo8 p.1) 2 = 0 := by simpa using h0
  rw [if_pos h0] at hbk
  have hw := back_word (u := p.2) hpos h0
  refine ⟨hbd, sP (by omega), _, e0, hbd, sP (by omega), _, e1, ?_⟩
  refine call_ca gc gs (markC ci (quo8 p.1) true) (putC (markC ci (quo8 p.1) true) p.1 p.2) _ .unk [] rfl (vs := [.pointer (some ⟨gc, 0, none⟩), .int .i64 p.1, .int .u64 p.2]) rfl (fun W hW hh => put13 gc gs _ okm p.1 p.2 hh) (fun _ => trivial) ?_
  have okp : CaOk (putC (markC ci (quo8 p.1) true) p.1 p.2) := (put_like _ _ _).ok okm (by omega)
  generalize putC (markC ci (quo8 p.1) true) p.1 p.2 = cp at okp hw hbk ⊢
  dsimp only [zq8t, caF, List.cons_append, List.nil_append]
  (refine Y_go 600 ?_; dsimp only [zq9i, normF, zq6n, Nat.reduceBEq, zq6l, zq6m, zq6k, zq86, zq89, zq8a, zq87, zq8c, zq9y, t3n3, T3n3, zq9r, zq9q, Y_k, zq4u, zq8o, YK, zq8t, zq58, zq06, zq0w, zq5a, zq16, Nat.add_zero, zq5c, zq1p, zq1c, List.nil_append, zq1b, zq18, zq9j])
  refine ⟨hbd, sP (by omega), _, e0, ?_⟩
  refine call_ca gc gs cp (wordC cp p.1) (.tuple #[.int .u64 p.2, .int .i64 0]) (.tup [.val (.int .u64 p.2), .val (.int .i64 0)]) [] rfl (vs := [.pointer (some ⟨gc, 0, none⟩), .int .i64 p.1]) rfl (fun W hW hh => by rw [← hw]; exact word14 gc gs cp okp p.1 hh) (fun _ => by simp [Is, IsL]) ?_
  dsimp only [zq8t, caF, List.cons_append, List.nil_append]
  (refine Y_go 600 ?_; dsimp only [Y_k, zq4u, zq8o, zq6n, Nat.reduceBEq, zq6k, YK, zq8t, zq5j, zq2f, nth, zq2e, zq6l, zq9i, normF, zq6m, zq86, zq89, zq8a, zq87, zq8c, zq9y, t3n2, T3n2, zq9r, zq9q, zq50, zq8p, zq6q, zq04, zq92, zq9b, zq0i, zq9d, Y_gk, zq6e, YS, zq6a, zq4v, zq6o, zq0b, zq9s, zq6f, YC, t3n1, T3n1, zq6p, zq9x, YR, zq6c, zq58, zq06, zq0w, zq5a, zq16, zq5c, zq1p, zq1c, List.nil_append, zq1b, zq18, zq96, zq0c, zq6h, zq8x, zq9p, zqa1, t3n7, T3n7, zq4w, zq0e, zqa2])
  exact ⟨fun h => absurd h (by decide), fun _ => ⟨hbd, sP (by omega), _, e1, fun h => absurd h (by simp), fun _ => ⟨_, hadd, lend_rule fun a W rep => hgo _ (by rw [hsn, hbk]) a W (rep.le (by simp only [caF]; (simp only [setn, List.nil_append, List.cons_append, leF, leH_nil, leH_cons, leF_nil, lk, scp, scpL, scpO, resF, resH, resO, resV, resVL, nth, Nat.reduceBEq, Nat.reduceLT, decide_true, decide_false, List.length, List.length_cons, List.length_nil, Nat.reduceAdd, Bool.and_self, Bool.and_true, and_true, true_and, numF] <;> try simp)) (by simp only [caF]; (simp only [setn, List.nil_append, List.cons_append, leF, leH_nil, leH_cons, leF_nil, lk, scp, scpL, scpO, resF, resH, resO, resV, resVL, nth, Nat.reduceBEq, Nat.reduceLT, decide_true, decide_false, List.length, List.length_cons, List.length_nil, Nat.reduceAdd, Bool.and_self, Bool.and_true, and_true, true_and, numF] <;> try simp)))⟩⟩⟩
end Go.Proofs.Ytimmobbginjkfaa
