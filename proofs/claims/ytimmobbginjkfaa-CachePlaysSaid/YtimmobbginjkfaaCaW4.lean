/- l1: Commit. -/
import Derived.Test.YtimmobbginjkfaaCaW1
import Derived.Test.YtimmobbginjkfaaCaCode
set_option linter.unusedSimpArgs false
set_option linter.unusedVariables false
set_option linter.unnecessarySimpa false
namespace Go.Proofs.Ytimmobbginjkfaa
open Go Go.Sx Go.Ca
set_option maxRecDepth 100000
theorem held24 (A : Option Addr) (w : World) :
  CallsV Try.prog 24 [.pointer A] w fun v w' => ∃ g1, v = .func (.func 42) #[] #[.pointer (some ⟨g1, 0, none⟩)] ∧ HeapOk ⟨w, w.heap.size, [], 4, []⟩ [.cells g1 26 [.val (.pointer A)]] w' := by
 refine calls_go (keep := K24) (nt := 4) (svs := [.val (.pointer A)]) Try.func24 x24 n24 (by simp) (by simp [IsL, Is]) fun R hR => ?_
 (refine Y_go 600 ?_; dsimp only [X24, numF, Nat.reduceAdd, zq9r, zq9q, Y_k, zq5f, zq8o, zq6n, Nat.reduceBEq, zq6k, zq7u, zq76, zq0a, zq1z, List.length_nil, List.nil_append, YK, zq8t, zq4u, zq8p, zq6y, zq9i, normF, zq6l, zq87, zq8c, zq9y, t24n0, T24n0, zq5k, evL, zq8j, zq9x])
 intro g1
 exact ret_rule (vs := [.func (.func 42) #[] #[.pointer (some ⟨g1, 0, none⟩)]]) r24 rfl rfl fun W hW => hR _ _ ⟨g1, rfl, hW⟩
theorem ok42 : fnOk Try.prog 42 = true := by kernel_rfl
def genTo (g : En → En) (c : Ca) (i : Nat) : Ca := { c with sl := fun j => if j < i then g (c.sl j) else c.sl j }
theorem gen_at (g : En → En) (c : Ca) (i : Nat) : (genTo g c i).sl i = c.sl i := by simp [genTo]
theorem gen_succ (g : En → En) (c : Ca) (i : Nat) : upd (genTo g c i).sl i (g (c.sl i)) = (genTo g c (i + 1)).sl := by
 funext j
 simp only [upd, genTo]
 by_cases h : j = i
 ·subst h; simp
 ·rw [if_neg h]
  by_cases h2 : j < i
  ·rw [if_pos h2, if_pos (by omega)]
  ·rw [if_neg h2, if_neg (by omega)]
theorem gen_same (g : En → En) (c : Ca) (i : Nat) (h : g (c.sl i) = c.sl i) : genTo g c (i + 1) = genTo g c i := by
 unfold genTo
 congr 1
 funext j
 by_cases h1 : j < i
 ·rw [if_pos h1, if_pos (by omega)]
 ·rw [if_neg h1]
  by_cases h2 : j = i
  ·subst h2; rw [if_pos (by omega), h]
  ·rw [if_neg (by omega)]
def clr (e : En) : En := if e.st = 0 then e else { e with rd := false, wr := false, o := zF }
def comC (c : Ca) : Ca := genTo clr c c.n
theorem commit10 {E0 : Env} {W : World} (gc gs : Nat) (c : Ca) (ok : CaOk c) (hW : HeapOk E0 (caF gc gs c) W) :
  CallsV Try.prog 10 [.pointer (some ⟨gc, 0, none⟩)] W fun v W' => v = .int .i64 0 ∧ HeapOk E0 (caF gc gs (comC c)) W' := by
 obtain ⟨b0, N, st, nt0, mk0⟩ := E0
 refine calls_lentM (keep := K10) (nt := 19) (svs := [.ptr 0 0]) Try.func10 x10 n10 (by simp) hW (by simp [IsL, Is, caF, blk, nth, SO.blk]) fun R hR => ?_
 have fin : ∀ (v : Value) (c' : Ca) (W : World) (r : List SO) (mk : List Nat), v = .int .i64 0 → c' = comC c → HeapOk ⟨b0, N, st, 19, mk⟩ (caF gc gs c' ++ r) W → R v W := fun v c' W r mk hv hc hW => hR _ _ ⟨hv, by rw [← hc]; exact HeapOk.env (E := ⟨b0, N, st, 19, mk⟩) (E' := ⟨b0, N, st, nt0, mk0⟩) rfl rfl rfl (hW.pre (caF_pre gc gs c'))⟩
 (refine Y_goM 600 ?_; dsimp only [X10, numF, Nat.reduceAdd, caF, zq9r, zq9q, Y_k, zq4u, zq8p, zq6q, YK, zq8t, zq9i, normF, zq6n, Nat.reduceBEq, zq6l, zq6k, zq6m, zq86, zq87, zq8c, zq9y, t10n5, T10n5, zq8o, zq5t, zq3s, zq3q, zq9s, zq6h, zq8x, YC, t10n0, T10n0, zq89, zq9x, zq9p, t10n4, T10n4, zq9j])
 refine ⟨fun h => absurd h (by decide), fun _ => ?_⟩
 refine call_rule (vs := [.pointer (some ⟨gc, 0, none⟩)]) rfl (R := fun W v W' => ∃ g1, v = .func (.func 42) #[] #[.pointer (some ⟨g1, 0, none⟩)] ∧ HeapOk ⟨W, W.heap.size, [], 4, []⟩ [.cells g1 26 [.val (.pointer (some ⟨gc, 0, none⟩))]] W') (fun W hW => held24 _ W) fun W v W2 hW ⟨g1, hv, hh⟩ => ?_
 refine ⟨.fn (.func 42) [] [.ptr 2 0], [.cells gc 66 [.val (.int .i64 c.sets), .val (.int .i64 c.ways), .slc 1 0 c.n c.n, .val (.int .i64 c.uses)], .row gs 44 (slV c.n c.sl), .cells g1 26 [.ptr 0 0]], ?_, HExt.push _ _, ?_, ?_⟩
 ·rw [hv]; simp [Is, IsL, blk, nth, SO.blk]
 ·refine heapJoin (H2' := [.cells g1 26 [.ptr 0 0]]) hW hh rfl fun e he => ?_
  simp only [List.mem_singleton] at he
  subst he
  obtain ⟨c, hc, hl⟩ := hh.ent (e := .cells g1 26 [.val (.pointer (some ⟨gc, 0, none⟩))]) (by simp)
  refine ⟨c, hc, ?_⟩
  simp only [IsL, Is, blk, nth, SO.blk] at hl ⊢
  obtain ⟨v, r, rfl, rfl, e⟩ := hl
  exact ⟨_, _, ⟨gc, rfl, rfl⟩, rfl, e⟩
 clear hh hv hW
 (refine Y_goM 600 ?_; dsimp only [zq8t, zq9i, normF, zq6n, Nat.reduceBEq, zq6l, zq6k, zq6m, zq86, zq8j, zq8a, zq87, zq8c, zq9y, t10n2, T10n2, zq9t, zq9w])
 refine rng_rule rfl rfl (gf := 42) (caps := [.pointer (some ⟨g1, 0, none⟩)]) rfl ok42 ?_
 intro D lo rec hrec R' hend hjump W3 hW3
 refine calls_in (keep := K42) (nt := 33) (E := ⟨b0, N, st, 19, []⟩) (svs := [.val (.func (.yield lo) #[] #[]), .ptr 2 0]) Try.func42 x42 n42 (by simp) hW3 (by simp [IsL, Is, blk, nth, SO.blk]) ?_
 (refine Y_go 600 ?_; dsimp only [X42, numF, Nat.reduceAdd, List.cons_append, List.nil_append, zq9z])
 refine scp_rule (fun _ _ _ h => h) ?_
 (refine Y_go 600 ?_; dsimp only [zq9r, zq9q, Y_k, zq5c, zq8o, zq6n, Nat.reduceBEq, zq6l, zq6k, zq1o, nth, zq1k, List.length_cons, List.length_nil, Nat.reduceAdd, dropL, takeL, zq19, zq18, YK, zq8t, zq5t, zq3s, zq3q, zq9i, normF, zq6m, zq86, zq87, zq8c, zq9s, zq6h, zq8x, YC, zq9x, zq9p, zqa0, zq9y, t42n5, T42n5, zq5i, zq29, zq5a, zq14, zq55, zq0s, zq4u, zq8p, zq6q, zq8a, zq9t, zq9v])
 have hn := ok.n32
 refine ⟨fun h => absurd h (by decide), fun _ => ?_⟩
 refine loop_go (α := Nat) (fun i => i ≤ c.n) (fun _ => ⟨b0, N, st, 33, []⟩)
  (fun i => { F := [(0, .val (.func (.yield lo) #[] #[])), (1, .ptr 2 0), (10, .val (.int .i64 c.n)), (11, .val (.int .i64 i))], H := [.cells gc 66 [.val (.int .i64 c.sets), .val (.int .i64 c.ways), .slc 1 0 c.n c.n, .val (.int .i64 c.uses)], .row gs 44 (slV c.n (genTo clr c i).sl), .cells g1 26 [.ptr 0 0], .obj D (.deferred (some [])), .obj lo (.loop rec)] }) (fun i => c.n - i) (fun _ => rfl) ?start ?round
 case start =>
  intro a W rep
  exact ⟨0, Nat.zero_le _, rep.le (by (simp only [setn, List.nil_append, List.cons_append, leF, leH_nil, leH_cons, leF_nil, lk, scp, scpL, scpO, resF, resH, resO, resV, resVL, nth, Nat.reduceBEq, Nat.reduceLT, decide_true, decide_false, List.length, List.length_cons, List.length_nil, Nat.reduceAdd, Bool.and_self, Bool.and_true, and_true, true_and, numF] <;> try simp)) (by (simp only [setn, List.nil_append, List.cons_append, leF, leH_nil, leH_cons, leF_nil, lk, scp, scpL, scpO, resF, resH, resO, resV, resVL, nth, Nat.reduceBEq, Nat.reduceLT, decide_true, decide_false, List.length, List.length_cons, List.length_nil, Nat.reduceAdd, Bool.and_self, Bool.and_true, and_true, true_and, numF] <;> try simp); rfl)⟩
 case round =>
  rintro i hi I again
  (refine Y_go 600 ?_; dsimp only [zq9y, t42n4, T42n4, zq9r, zq9q, Y_k, zq50, zq8o, zq6n, Nat.reduceBEq, zq6l, zq6k, zq04, zq92, zq9b, zq0i, zq9e, YK, zq8t, zq9i, normF, zq6m, zq86, zq87, zq8c, t42n3, T42n3, zq9s, zq6h, zq8x, YC, zq9p, t42n2, T42n2, zq9t, zq4u, zq89, t42n1, T42n1, zq5c, zq1o, nth, zq1k, List.length_cons, List.length_nil, Nat.reduceAdd, dropL, takeL, zq19, zq18, zq5i, zq29, zq5a, zq14, zq58, zq06, zq0x, zq1l, zq1c, List.nil_append, zq1b, zq8p, zq6q, zq9c, zq9u, popTo, zq6i, YP, zq4w, zq0e, zqa2, t42n0, T42n0, zq9k, zqa3])
  refine ⟨fun hlt => ?_, fun hge => ?_⟩
  rotate_left
  ·have hie : i = c.n := by have := of_decide_eq_false hge; omega
   subst hie
   refine ret_rule (keep := K42) (tab := T42) (vs := []) r42 rfl rfl fun W hW => ?_
   refine hend _ _ W ?_ (extB_spec ?_) (HeapOk.env (E := ⟨b0, N, st, 33, []⟩) (E' := ⟨b0, N, st, 19, []⟩) rfl rfl rfl hW) ?_
   ·rfl
   ·simp [extB, SO.blk, bump]
   ·(refine Y_goM 600 ?_; dsimp only [List.length_cons, List.length_nil, Nat.reduceAdd, setn, zqa1, zq9y, t10n3, T10n3, zq9r, zq9q, Y_k, zq4u, zq8p, zq6q, YK, zq8t, zq9i, normF, zq6n, Nat.reduceBEq, zq6l, zq6k, zq6m, zq86, zq8j, zq8a, zq87, zq8c, zq9x])
    refine ret_mark (vs := [.int .i64 0]) 3 r10 rfl rfl rfl fun W hW => ?_
    exact fin (.int .i64 0) (comC c) W _ [] rfl rfl (HeapOk.env (E := ⟨b0, N, st, 19, [D]⟩) (E' := ⟨b0, N, st, 19, []⟩) rfl rfl rfl hW)
  have hlt : i < c.n := by have := of_decide_eq_true hlt; omega
  have hat := gen_at clr c i
  have hadd : ArOk .add .i64 (i : Int) 1 ((i + 1 : Nat) : Int) := ArOk.to (by omega) (by omega) (by omega)
  have hclr : clr (c.sl i) = if (c.sl i).st = 0 then c.sl i else { c.sl i with rd := false, wr := false, o := zF } := rfl
  have hgo : ∀ f, f = (genTo clr c (i + 1)).sl → ∀ (a : Act) (W : World), Rep ⟨b0, N, st, 33, []⟩ { F := [(0, .val (.func (.yield lo) #[] #[])), (1, .ptr 2 0), (10, .val (.int .i64 c.n)), (11, .val (.int .i64 ((i + 1 : Nat) : Int)))], H := [.cells gc 66 [.val (.int .i64 c.sets), .val (.int .i64 c.ways), .slc 1 0 c.n c.n, .val (.int .i64 c.uses)], .row gs 44 (slV c.n f), .cells g1 26 [.ptr 0 0], .obj D (.deferred (some [])), .obj lo (.loop rec)] } a W → I a W := fun f hf a W rep => by
   subst hf; exact again (i + 1) hlt (by omega) a W rep
  rw [Int.toNat_natCast, Nat.zero_add]
  refine ⟨⟨by omega, by omega⟩, (c.sl i).st, slV_atm 1 hlt rfl (by rw [hat]; rfl), fun h0 => ⟨_, hadd, lend_rule fun a W rep => hgo (genTo clr c i).sl ?_ a W (rep.le (by (simp only [setn, List.nil_append, List.cons_append, leF, leH_nil, leH_cons, leF_nil, lk, scp, scpL, scpO, resF, resH, resO, resV, resVL, nth, Nat.reduceBEq, Nat.reduceLT, decide_true, decide_false, List.length, List.length_cons, List.length_nil, Nat.reduceAdd, Bool.and_self, Bool.and_true, and_true, true_and, numF] <;> try simp)) (by (simp only [setn, List.nil_append, List.cons_append, leF, leH_nil, leH_cons, leF_nil, lk, scp, scpL, scpO, resF, resH, resO, resV, resVL, nth, Nat.reduceBEq, Nat.reduceLT, decide_true, decide_false, List.length, List.length_cons, List.length_nil, Nat.reduceAdd, Bool.and_self, Bool.and_true, and_true, true_and, numF] <;> try simp)))⟩, fun h0 => ⟨⟨by omega, by omega⟩, ?_⟩⟩
  ·have h0 : (c.sl i).st = 0 := by simpa using h0
   rw [gen_same clr c i (by rw [hclr, if_pos h0])]
  have h0 : ¬ (c.sl i).st = 0 := by simpa using h0
  rw [if_neg h0] at hclr
  have hsu := gen_succ clr c i
  rw [hclr] at hsu
  have hgo := hgo _ hsu
  generalize (genTo clr c i).sl = f at hat hgo ⊢
  clear hsu hclr again
  refine yield_rule (C' := cxOf Try.prog Try.f42 K42 T42 R') (E := ⟨b0, N, st, 19, []⟩) (i := 4) (rec := rec) (lno := lo) (keep := K10) ?_ ?_ ?_ hrec ?_ ?_ ?_ ?_ ?_ ?_
  ·rfl
  ·rfl
  ·rfl
  ·simp
  ·rfl
  ·rfl
  ·rfl
  ·exact extB_spec (by simp [extB, SO.blk, bump])
  intro J Q' hQ' hbeg hnorm hjmp
  have hF : NoPanic (fun _ _ _ => False) := fun _ _ _ h => h
  (refine Y_round hF 600 ?_; dsimp only [evL, zq8o, zq6n, Nat.reduceBEq, zq6k, setPs, zq9q, Y_k, zq4u, YK, zq8t, zq9i, normF, zq6l, zq8c, zq8j, zq8a, zq87, zqa2])
  refine lend_rule fun a W rep => hbeg _ _ rfl ?_ a W rep
  (refine Y_round hQ' 600 ?_; dsimp only [setn, zq9y, t10n1, T10n1, zq9t, zq9q, Y_k, zq4u, zq8o, zq6n, Nat.reduceBEq, zq6l, zq6k, YK, zq8t, zq5g, List.map, zq6q, zq22, zq25, zq5i, zq29, zq5a, zq14, zq5d, zq8p, zq6p, zq7w, zq7i, zq0a, zq1x, nth, zq1u, denL, den, zq1s, splice, zq8s, zq7t, List.length_cons, List.length_nil, Nat.reduceAdd, zq8l, zq73, zq8m, zq8k, zq9i, normF, zq8c, zq8j, zq8a, zq87, zqa1, zqa3])
  have e1 := slV_setn (n := c.n) (f := f) (u := .bool false) hlt (k := 2) (by decide) (e := { c.sl i with rd := false }) (by rw [hat]; rfl)
  have e2 := slV_setn (n := c.n) (f := upd f i { c.sl i with rd := false }) (u := .bool false) hlt (k := 3) (by decide) (e := { c.sl i with rd := false, wr := false }) (by rw [upd_at]; rfl)
  have e3 := slV_splice (n := c.n) (i := i) (k := 12) (f := upd (upd f i { c.sl i with rd := false }) i { c.sl i with rd := false, wr := false }) (us := [.int .u64 0, .int .u64 0, .int .u64 0, .int .u64 0, .int .u64 0, .int .u64 0, .int .u64 0, .int .u64 0]) (e := { c.sl i with rd := false, wr := false, o := zF }) hlt (by decide) (by rw [upd_at]; rfl)
  refine ⟨by rw [slV_len]; omega, by rw [e1, slV_len]; omega, by rw [e1, e2, slV_len]; omega, ?_⟩
  rw [← e2, ← e1, upd_upd, upd_upd] at e3
  simp only [splice] at e3
  rw [e3]
  refine stop_rule fun a W rep => hnorm _ rfl (extB_spec (by simp [extB, SO.blk, bump])) ?_ _ a W rep
  (refine Y_go 600 ?_; dsimp only [zq8t, setn, Y_k, zq53, zq8o, zq6n, Nat.reduceBEq, zq6k, zq0m, YK, zq9i, normF, zq6l, zq6m, zq8a, zq89, zq87, zq86, zq8c, zq9s, zq6g, YC, zq9p, zqa1, zq9q, zq4w, zq8p, zq6q, zq04, zq92, zq9b, zq0e, zq4u, zqa2])
  exact ⟨_, hadd, lend_rule fun a W rep => hgo a W (rep.le (by (simp only [setn, List.nil_append, List.cons_append, leF, leH_nil, leH_cons, leF_nil, lk, scp, scpL, scpO, resF, resH, resO, resV, resVL, nth, Nat.reduceBEq, Nat.reduceLT, decide_true, decide_false, List.length, List.length_cons, List.length_nil, Nat.reduceAdd, Bool.and_self, Bool.and_true, and_true, true_and, numF] <;> try simp)) (by (simp only [setn, List.nil_append, List.cons_append, leF, leH_nil, leH_cons, leF_nil, lk, scp, scpL, scpO, resF, resH, resO, resV, resVL, nth, Nat.reduceBEq, Nat.reduceLT, decide_true, decide_false, List.length, List.length_cons, List.length_nil, Nat.reduceAdd, Bool.and_self, Bool.and_true, and_true, true_and, numF] <;> try simp)))⟩
end Go.Proofs.Ytimmobbginjkfaa
namespace Go.Proofs.Ytimmobbginjkfaa
open Go Go.Sx Go.Ca
set_option maxRecDepth 100000
def dis (e : En) : En := if e.st = 0 then e else if e.wr = true then { e with d := e.o } else e
def disC (c : Ca) : Ca := comC (genTo dis c c.n)
theorem call_com {C : Cx} {E : Env} {d : Option Nat} {args : List Operand} {l : List XS} {k : List KI} {F : List (Nat × SV)} (gc gs : Nat) (c : Ca) (ok : CaOk c) (r : List SO) (hP : C.P = Try.prog) (hargs : denL (caF gc gs c ++ r) (evL F args) = some [.pointer (some ⟨gc, 0, none⟩)])
  (next : G C E (.ops l :: k) { F := putF F d (.val (.int .i64 0)), H := caF gc gs (comC c) ++ r }) :
  G C E (.ops ({ dst := d, guard := none, i := .call 10 args } :: l) :: k) { F := F, H := caF gc gs c ++ r } := by
 refine call_lent (H1 := caF gc gs c) (r := r) (fun v H1' => v = .int .i64 0 ∧ H1' = caF gc gs (comC c)) (caF_scp gc gs c) hargs (fun W hW hh => ?_) fun v H1' hv => ?_
 ·rw [hP]
  exact (commit10 gc gs c ok hh).mono fun v W' hv => ⟨_, ⟨hv.1, rfl⟩, caF_ext gc gs c _, rfl, hv.2⟩
 obtain ⟨rfl, rfl⟩ := hv
 exact ⟨.val (.int .i64 0), by simp [Is], next⟩
theorem caOk_gen {c : Ca} (ok : CaOk c) (g : En → En) (i : Nat) : CaOk (genTo g c i) := ⟨ok.s1, ok.s8, ok.w1, ok.w4, ok.u0, ok.u1⟩
theorem discard15 {E0 : Env} {W : World} (gc gs : Nat) (c : Ca) (ok : CaOk c) (hW : HeapOk E0 (caF gc gs c) W) :
  CallsV Try.prog 15 [.pointer (some ⟨gc, 0, none⟩)] W fun v W' => v = .int .i64 0 ∧ HeapOk E0 (caF gc gs (disC c)) W' := by
 obtain ⟨b0, N, st, nt0, mk0⟩ := E0
 refine calls_lentM (keep := K15) (nt := 22) (svs := [.ptr 0 0]) Try.func15 x15 n15 (by simp) hW (by simp [IsL, Is, caF, blk, nth, SO.blk]) fun R hR => ?_
 have fin : ∀ (v : Value) (c' : Ca) (W : World) (r : List SO) (mk : List Nat), v = .int .i64 0 → c' = disC c → HeapOk ⟨b0, N, st, 22, mk⟩ (caF gc gs c' ++ r) W → R v W := fun v c' W r mk hv hc hW => hR _ _ ⟨hv, by rw [← hc]; exact HeapOk.env (E := ⟨b0, N, st, 22, mk⟩) (E' := ⟨b0, N, st, nt0, mk0⟩) rfl rfl rfl (hW.pre (caF_pre gc gs c'))⟩
 (refine Y_goM 600 ?_; dsimp only [X15, numF, Nat.reduceAdd, caF, zq9r, zq9q, Y_k, zq4u, zq8p, zq6q, YK, zq8t, zq9i, normF, zq6n, Nat.reduceBEq, zq6l, zq6k, zq6m, zq86, zq87, zq8c, zq9y, t15n6, T15n6, zq8o, zq5t, zq3s, zq3q, zq9s, zq6h, zq8x, YC, t15n0, T15n0, zq89, zq9x, zq9p, t15n5, T15n5, zq9j])
 refine ⟨fun h => absurd h (by decide), fun _ => ?_⟩
 refine call_rule (vs := [.pointer (some ⟨gc, 0, none⟩)]) rfl (R := fun W v W' => ∃ g1, v = .func (.func 42) #[] #[.pointer (some ⟨g1, 0, none⟩)] ∧ HeapOk ⟨W, W.heap.size, [], 4, []⟩ [.cells g1 26 [.val (.pointer (some ⟨gc, 0, none⟩))]] W') (fun W hW => held24 _ W) fun W v W2 hW ⟨g1, hv, hh⟩ => ?_
 refine ⟨.fn (.func 42) [] [.ptr 2 0], [.cells gc 66 [.val (.int .i64 c.sets), .val (.int .i64 c.ways), .slc 1 0 c.n c.n, .val (.int .i64 c.uses)], .row gs 44 (slV c.n c.sl), .cells g1 26 [.ptr 0 0]], ?_, HExt.push _ _, ?_, ?_⟩
 ·rw [hv]; simp [Is, IsL, blk, nth, SO.blk]
 ·refine heapJoin (H2' := [.cells g1 26 [.ptr 0 0]]) hW hh rfl fun e he => ?_
  simp only [List.mem_singleton] at he
  subst he
  obtain ⟨c, hc, hl⟩ := hh.ent (e := .cells g1 26 [.val (.pointer (some ⟨gc, 0, none⟩))]) (by simp)
  refine ⟨c, hc, ?_⟩
  simp only [IsL, Is, blk, nth, SO.blk] at hl ⊢
  obtain ⟨v, r, rfl, rfl, e⟩ := hl
  exact ⟨_, _, ⟨gc, rfl, rfl⟩, rfl, e⟩
 clear hh hv hW
 (refine Y_goM 600 ?_; dsimp only [zq8t, zq9i, normF, zq6n, Nat.reduceBEq, zq6l, zq6k, zq6m, zq86, zq8j, zq8a, zq87, zq8c, zq9y, t15n3, T15n3, zq9t, zq9w])
 refine rng_rule rfl rfl (gf := 42) (caps := [.pointer (some ⟨g1, 0, none⟩)]) rfl ok42 ?_
 intro D lo rec hrec R' hend hjump W3 hW3
 refine calls_in (keep := K42) (nt := 33) (E := ⟨b0, N, st, 22, []⟩) (svs := [.val (.func (.yield lo) #[] #[]), .ptr 2 0]) Try.func42 x42 n42 (by simp) hW3 (by simp [IsL, Is, blk, nth, SO.blk]) ?_
 (refine Y_go 600 ?_; dsimp only [X42, numF, Nat.reduceAdd, List.cons_append, List.nil_append, zq9z])
 refine scp_rule (fun _ _ _ h => h) ?_
 (refine Y_go 600 ?_; dsimp only [zq9r, zq9q, Y_k, zq5c, zq8o, zq6n, Nat.reduceBEq, zq6l, zq6k, zq1o, nth, zq1k, List.length_cons, List.length_nil, Nat.reduceAdd, dropL, takeL, zq19, zq18, YK, zq8t, zq5t, zq3s, zq3q, zq9i, normF, zq6m, zq86, zq87, zq8c, zq9s, zq6h, zq8x, YC, zq9x, zq9p, zqa0, zq9y, t42n5, T42n5, zq5i, zq29, zq5a, zq14, zq55, zq0s, zq4u, zq8p, zq6q, zq8a, zq9t, zq9v])
 have hn := ok.n32
 refine ⟨fun h => absurd h (by decide), fun _ => ?_⟩
 refine loop_go (α := Nat) (fun i => i ≤ c.n) (fun _ => ⟨b0, N, st, 33, []⟩)
  (fun i => { F := [(0, .val (.func (.yield lo) #[] #[])), (1, .ptr 2 0), (10, .val (.int .i64 c.n)), (11, .val (.int .i64 i))], H := [.cells gc 66 [.val (.int .i64 c.sets), .val (.int .i64 c.ways), .slc 1 0 c.n c.n, .val (.int .i64 c.uses)], .row gs 44 (slV c.n (genTo dis c i).sl), .cells g1 26 [.ptr 0 0], .obj D (.deferred (some [])), .obj lo (.loop rec)] }) (fun i => c.n - i) (fun _ => rfl) ?start ?round
 case start =>
  intro a W rep
  exact ⟨0, Nat.zero_le _, rep.le (by (simp only [setn, List.nil_append, List.cons_append, leF, leH_nil, leH_cons, leF_nil, lk, scp, scpL, scpO, resF, resH, resO, resV, resVL, nth, Nat.reduceBEq, Nat.reduceLT, decide_true, decide_false, List.length, List.length_cons, List.length_nil, Nat.reduceAdd, Bool.and_self, Bool.and_true, and_true, true_and, numF] <;> try simp)) (by (simp only [setn, List.nil_append, List.cons_append, leF, leH_nil, leH_cons, leF_nil, lk, scp, scpL, scpO, resF, resH, resO, resV, resVL, nth, Nat.reduceBEq, Nat.reduceLT, decide_true, decide_false, List.length, List.length_cons, List.length_nil, Nat.reduceAdd, Bool.and_self, Bool.and_true, and_true, true_and, numF] <;> try simp); rfl)⟩
 case round =>
  rintro i hi I again
  (refine Y_go 600 ?_; dsimp only [zq9y, t42n4, T42n4, zq9r, zq9q, Y_k, zq50, zq8o, zq6n, Nat.reduceBEq, zq6l, zq6k, zq04, zq92, zq9b, zq0i, zq9e, YK, zq8t, zq9i, normF, zq6m, zq86, zq87, zq8c, t42n3, T42n3, zq9s, zq6h, zq8x, YC, zq9p, t42n2, T42n2, zq9t, zq4u, zq89, t42n1, T42n1, zq5c, zq1o, nth, zq1k, List.length_cons, List.length_nil, Nat.reduceAdd, dropL, takeL, zq19, zq18, zq5i, zq29, zq5a, zq14, zq58, zq06, zq0x, zq1l, zq1c, List.nil_append, zq1b, zq8p, zq6q, zq9c, zq9u, popTo, zq6i, YP, zq4w, zq0e, zqa2, t42n0, T42n0, zq9k, zqa3])
  refine ⟨fun hlt => ?_, fun hge => ?_⟩
  rotate_left
  ·have hie : i = c.n := by have := of_decide_eq_false hge; omega
   subst hie
   refine ret_rule (keep := K42) (tab := T42) (vs := []) r42 rfl rfl fun W hW => ?_
   refine hend _ _ W ?_ (extB_spec ?_) (HeapOk.env (E := ⟨b0, N, st, 33, []⟩) (E' := ⟨b0, N, st, 22, []⟩) rfl rfl rfl hW) ?_
   ·rfl
   ·simp [extB, SO.blk, bump]
   ·(refine Y_goM 600 ?_; dsimp only [List.length_cons, List.length_nil, Nat.reduceAdd, setn, zqa1, zq9y, t15n4, T15n4, zq9r, zq9q, Y_k, zq4u, zq8o, zq6n, Nat.reduceBEq, zq6k, YK, zq8t, zq9j])
    refine call_com gc gs (genTo dis c c.n) (caOk_gen ok dis c.n) [_, _, _] rfl rfl ?_
    dsimp only [zq8t, caF, List.cons_append, List.nil_append]
    (refine Y_goM 600 ?_; dsimp only [Y_k, zq4u, zq8o, zq6n, Nat.reduceBEq, zq6k, YK, zq8t, zq9i, normF, zq6l, zq6m, zq86, zq8j, zq8a, zq87, zq8c, zq9x])
    refine ret_mark (vs := [.int .i64 0]) 3 r15 rfl rfl rfl fun W hW => ?_
    exact fin (.int .i64 0) (disC c) W _ [] rfl rfl (HeapOk.env (E := ⟨b0, N, st, 22, [D]⟩) (E' := ⟨b0, N, st, 22, []⟩) rfl rfl rfl hW)
  have hlt : i < c.n := by have := of_decide_eq_true hlt; omega
  have hat := gen_at dis c i
  have hadd : ArOk .add .i64 (i : Int) 1 ((i + 1 : Nat) : Int) := ArOk.to (by omega) (by omega) (by omega)
  have hdis : dis (c.sl i) = if (c.sl i).st = 0 then c.sl i else if (c.sl i).wr = true then { c.sl i with d := (c.sl i).o } else c.sl i := rfl
  have hgo : ∀ f, f = (genTo dis c (i + 1)).sl → ∀ (a : Act) (W : World), Rep ⟨b0, N, st, 33, []⟩ { F := [(0, .val (.func (.yield lo) #[] #[])), (1, .ptr 2 0), (10, .val (.int .i64 c.n)), (11, .val (.int .i64 ((i + 1 : Nat) : Int)))], H := [.cells gc 66 [.val (.int .i64 c.sets), .val (.int .i64 c.ways), .slc 1 0 c.n c.n, .val (.int .i64 c.uses)], .row gs 44 (slV c.n f), .cells g1 26 [.ptr 0 0], .obj D (.deferred (some [])), .obj lo (.loop rec)] } a W → I a W := fun f hf a W rep => by
   subst hf; exact again (i + 1) hlt (by omega) a W rep
  rw [Int.toNat_natCast, Nat.zero_add]
  refine ⟨⟨by omega, by omega⟩, (c.sl i).st, slV_atm 1 hlt rfl (by rw [hat]; rfl), fun h0 => ⟨_, hadd, lend_rule fun a W rep => hgo (genTo dis c i).sl ?_ a W (rep.le (by (simp only [setn, List.nil_append, List.cons_append, leF, leH_nil, leH_cons, leF_nil, lk, scp, scpL, scpO, resF, resH, resO, resV, resVL, nth, Nat.reduceBEq, Nat.reduceLT, decide_true, decide_false, List.length, List.length_cons, List.length_nil, Nat.reduceAdd, Bool.and_self, Bool.and_true, and_true, true_and, numF] <;> try simp)) (by (simp only [setn, List.nil_append, List.cons_append, leF, leH_nil, leH_cons, leF_nil, lk, scp, scpL, scpO, resF, resH, resO, resV, resVL, nth, Nat.reduceBEq, Nat.reduceLT, decide_true, decide_false, List.length, List.length_cons, List.length_nil, Nat.reduceAdd, Bool.and_self, Bool.and_true, and_true, true_and, numF] <;> try simp)))⟩, fun h0 => ⟨⟨by omega, by omega⟩, ?_⟩⟩
  ·have h0 : (c.sl i).st = 0 := by simpa using h0
   rw [gen_same dis c i (by rw [hdis, if_pos h0])]
  have h0 : ¬ (c.sl i).st = 0 := by simpa using h0
  rw [if_neg h0] at hdis
  have hsu := gen_succ dis c i
  have hsame := gen_same dis c i
  rw [hdis] at hsu hsame
  generalize hf : (genTo dis c i).sl = f at hat hgo hsu ⊢
  clear hdis again
  refine yield_rule (C' := cxOf Try.prog Try.f42 K42 T42 R') (E := ⟨b0, N, st, 22, []⟩) (i := 4) (rec := rec) (lno := lo) (keep := K15) ?_ ?_ ?_ hrec ?_ ?_ ?_ ?_ ?_ ?_
  ·rfl
  ·rfl
  ·rfl
  ·simp
  ·rfl
  ·rfl
  ·rfl
  ·exact extB_spec (by simp [extB, SO.blk, bump])
  intro J Q' hQ' hbeg hnorm hjmp
  have hF : NoPanic (fun _ _ _ => False) := fun _ _ _ h => h
  (refine Y_round hF 600 ?_; dsimp only [evL, zq8o, zq6n, Nat.reduceBEq, zq6k, setPs, zq9q, Y_k, zq4u, YK, zq8t, zq9i, normF, zq6l, zq6m, zq86, zq8c, zq8j, zq8a, zq87, zqa2])
  refine lend_rule fun a W rep => hbeg _ _ rfl ?_ a W rep
  (refine Y_round hQ' 600 ?_; dsimp only [setn, zq9y, t15n2, T15n2, zq9t, zq9r, zq9q, Y_k, zq4u, zq8o, zq6n, Nat.reduceBEq, zq6l, zq6k, YK, zq8t, zq5i, zq29, zq5a, zq14, zq5c, zq1o, nth, zq1l, zq1d, List.nil_append, zq1b, zq18, zq9i, normF, zq87, zq8c, zq8j, zq8a, zq9s, zq6h, zq8x, YC, t15n1, T15n1, zq1c, List.cons_append, zq17, zq5d, zq7t, List.length_cons, List.length_nil, Nat.reduceAdd, zq8l, zq73, zq8m, zq8k, zq0a, zq1x, zq1u, denL, den, zq1s, splice, zq8s, zq89, zqa1, zqa3, zq9p])
  refine ⟨(c.sl i).wr, slV_atm 3 hlt rfl (by rw [hat]; rfl), fun hw => ?_, fun hw => ?_⟩
  ·rw [if_pos hw] at hsu
   have e3 := slV_splice (n := c.n) (i := i) (k := 4) (f := f) (us := [.int .u64 ((c.sl i).o 0), .int .u64 ((c.sl i).o 1), .int .u64 ((c.sl i).o 2), .int .u64 ((c.sl i).o 3), .int .u64 ((c.sl i).o 4), .int .u64 ((c.sl i).o 5), .int .u64 ((c.sl i).o 6), .int .u64 ((c.sl i).o 7)]) (e := { c.sl i with d := (c.sl i).o }) hlt (by simp) (by rw [hat]; rfl)
   refine ⟨_, slV_atm 12 hlt (by omega) (by rw [hat]; rfl), _, slV_atm 13 hlt (by omega) (by rw [hat]; rfl), _, slV_atm 14 hlt (by omega) (by rw [hat]; rfl), _, slV_atm 15 hlt (by omega) (by rw [hat]; rfl), _, slV_atm 16 hlt (by omega) (by rw [hat]; rfl), _, slV_atm 17 hlt (by omega) (by rw [hat]; rfl), _, slV_atm 18 hlt (by omega) (by rw [hat]; rfl), _, slV_atm 19 hlt (by omega) (by rw [hat]; rfl), by rw [slV_len]; omega, ?_⟩
   simp only [splice] at e3
   rw [e3]
   refine stop_rule fun a W rep => hnorm _ rfl (extB_spec (by simp [extB, SO.blk, bump])) ?_ _ a W rep
   (refine Y_go 600 ?_; dsimp only [zq8t, setn, Y_k, zq53, zq8o, zq6n, Nat.reduceBEq, zq6k, zq0m, YK, zq9i, normF, zq6l, zq6m, zq8a, zq89, zq87, zq86, zq8c, zq9s, zq6g, YC, zq9p, zqa1, zq9q, zq4w, zq8p, zq6q, zq04, zq92, zq9b, zq0e, zq4u, zqa2])
   exact ⟨_, hadd, lend_rule fun a W rep => hgo _ hsu a W (rep.le (by (simp only [setn, List.nil_append, List.cons_append, leF, leH_nil, leH_cons, leF_nil, lk, scp, scpL, scpO, resF, resH, resO, resV, resVL, nth, Nat.reduceBEq, Nat.reduceLT, decide_true, decide_false, List.length, List.length_cons, List.length_nil, Nat.reduceAdd, Bool.and_self, Bool.and_true, and_true, true_and, numF] <;> try simp)) (by (simp only [setn, List.nil_append, List.cons_append, leF, leH_nil, leH_cons, leF_nil, lk, scp, scpL, scpO, resF, resH, resO, resV, resVL, nth, Nat.reduceBEq, Nat.reduceLT, decide_true, decide_false, List.length, List.length_cons, List.length_nil, Nat.reduceAdd, Bool.and_self, Bool.and_true, and_true, true_and, numF] <;> try simp)))⟩
  ·rw [if_neg (by rw [hw]; simp)] at hsame
   refine stop_rule fun a W rep => hnorm _ rfl (extB_spec (by simp [extB, SO.blk, bump])) ?_ _ a W rep
   (refine Y_go 600 ?_; dsimp only [zq8t, setn, Y_k, zq53, zq8o, zq6n, Nat.reduceBEq, zq6k, zq0m, YK, zq9i, normF, zq6l, zq6m, zq8a, zq89, zq87, zq86, zq8c, zq9s, zq6g, YC, zq9p, zqa1, zq9q, zq4w, zq8p, zq6q, zq04, zq92, zq9b, zq0e, zq4u, zqa2])
   exact ⟨_, hadd, lend_rule fun a W rep => hgo f (by rw [hsame rfl, hf]) a W (rep.le (by (simp only [setn, List.nil_append, List.cons_append, leF, leH_nil, leH_cons, leF_nil, lk, scp, scpL, scpO, resF, resH, resO, resV, resVL, nth, Nat.reduceBEq, Nat.reduceLT, decide_true, decide_false, List.length, List.length_cons, List.length_nil, Nat.reduceAdd, Bool.and_self, Bool.and_true, and_true, true_and, numF] <;> try simp)) (by (simp only [setn, List.nil_append, List.cons_append, leF, leH_nil, leH_cons, leF_nil, lk, scp, scpL, scpO, resF, resH, resO, resV, resVL, nth, Nat.reduceBEq, Nat.reduceLT, decide_true, decide_false, List.length, List.length_cons, List.length_nil, Nat.reduceAdd, Bool.and_self, Bool.and_true, and_true, true_and, numF] <;> try simp)))⟩
end Go.Proofs.Ytimmobbginjkfaa
