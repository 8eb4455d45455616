/- CachePlays: the document's At; calls with its cache lent. -/
import Derived.Test.YtimmobbginjkfaaCpPlain
import Derived.Test.YtimmobbginjkfaaCaCodeR
set_option linter.unusedSimpArgs false
set_option linter.unusedVariables false
set_option linter.unnecessarySimpa false
namespace Go.Proofs.Ytimmobbginjkfaa
open Go Go.Sx Go.Ca
set_option maxRecDepth 100000
def atL (l : List En) (line : Int) : Option Nat := l.findIdx? fun e => e.line == line
def atI (l : List En) (line : Int) : Int := match atL l line with
 | some i => i
 | none => -1
theorem atL_some {l : List En} {line : Int} {i : Nat} (h : atL l line = some i) : ∃ hi : i < l.length, l[i].line = line := by
 obtain ⟨h1, h2, _⟩ := List.findIdx?_eq_some_iff_getElem.1 h
 exact ⟨h1, by simpa using h2⟩
theorem atL_is {l : List En} {line : Int} {i : Nat} (hi : i < l.length) (h1 : l[i].line = line) (h2 : ∀ k, k < i → ∀ hk : k < l.length, l[k].line ≠ line) : atL l line = some i :=
 List.findIdx?_eq_some_iff_getElem.2 ⟨hi, by simpa using h1, fun j hj => by simpa using h2 j hj (by omega)⟩
theorem atL_no {l : List En} {line : Int} (h2 : ∀ k, ∀ hk : k < l.length, l[k].line ≠ line) : atL l line = none :=
 List.findIdx?_eq_none_iff.2 fun x hx => by
  obtain ⟨k, hk, rfl⟩ := List.mem_iff_getElem.1 hx
  simpa using h2 k hk
theorem dc_scp (gw : Nat) (A : Option Addr) (cc : Nat) (D : Dc) (v : Nat) : (dcS 0 gw v A cc D).all (scpO 2) = true := rfl
theorem dc_pre (gw : Nat) (A : Option Addr) (cc : Nat) (D : Dc) (v : Nat) : ∀ e ∈ dcS 0 gw v A cc D, scpO (dcS 0 gw v A cc D).length e = true := fun e he => List.all_eq_true.1 (dc_scp gw A cc D v) e he
theorem at46 {E0 : Env} {W : World} (gw : Nat) (A : Option Addr) (cc : Nat) (D : Dc) (line : Int) (hl : D.es.length ≤ 1000) (hW : HeapOk E0 (dcS 0 gw 0 A cc D) W) :
  CallsV Try.prog 46 [.pointer (some ⟨gw, 0, none⟩), .int .i64 line] W fun v W' => v = .int .i64 (atI D.es line) ∧ HeapOk E0 (dcS 0 gw 0 A cc D) W' := by
 obtain ⟨b0, N, st, nt0, mk0⟩ := E0
 refine calls_lent (keep := K46) (nt := 26) (svs := [.ptr 0 0, .val (.int .i64 line)]) Try.func46 x46 n46 (by simp) hW (by simp [IsL, Is, dcS, blk, nth, SO.blk]) fun R hR => ?_
 have fin : ∀ (v : Value) (W : World) (r : List SO), v = .int .i64 (atI D.es line) → HeapOk ⟨b0, N, st, 26, []⟩ (dcS 0 gw 0 A cc D ++ r) W → R v W := fun v W r hv hW => hR _ _ ⟨hv, HeapOk.env (E := ⟨b0, N, st, 26, []⟩) (E' := ⟨b0, N, st, nt0, mk0⟩) rfl rfl rfl (hW.pre (dc_pre gw A cc D 0))⟩
 (refine Y_go 600 ?_; dsimp only [X46, numF, Nat.reduceAdd, dcS, zq9r, zq9q, Y_k, zq4u, zq8p, zq6q, YK, zq8t, zq9i, normF, zq6n, Nat.reduceBEq, zq6l, zq6k, zq6m, zq86, zq87, zq8c, zq9y, t46n5, T46n5, zq9t, zq9v])
 refine loop_go (α := Nat) (fun i => i ≤ D.es.length ∧ ∀ k, k < i → ∀ hk : k < D.es.length, D.es[k].line ≠ line) (fun _ => ⟨b0, N, st, 26, []⟩)
  (fun i => { F := [(0, .ptr 0 0), (1, .val (.int .i64 line)), (4, .val (.int .i64 0)), (5, .val (.int .i64 i))], H := dcS 0 gw 0 A cc D }) (fun i => D.es.length - i) (fun _ => rfl) ?start ?round
 case start =>
  intro a W rep
  exact ⟨0, ⟨Nat.zero_le _, fun k hk => by omega⟩, rep.le (by simp only [dcS]; (simp only [setn, List.nil_append, List.cons_append, leF, leH_nil, leH_cons, leF_nil, lk, scp, scpL, scpO, resF, resH, resO, resV, resVL, nth, Nat.reduceBEq, Nat.reduceLT, decide_true, decide_false, List.length, List.length_cons, List.length_nil, Nat.reduceAdd, Bool.and_self, Bool.and_true, and_true, true_and, numF] <;> try simp)) (by simp only [dcS]; (simp only [setn, List.nil_append, List.cons_append, leF, leH_nil, leH_cons, leF_nil, lk, scp, scpL, scpO, resF, resH, resO, resV, resVL, nth, Nat.reduceBEq, Nat.reduceLT, decide_true, decide_false, List.length, List.length_cons, List.length_nil, Nat.reduceAdd, Bool.and_self, Bool.and_true, and_true, true_and, numF] <;> try simp))⟩
 case round =>
  rintro i ⟨hi, hno⟩ I again
  simp only [dcS]
  (refine Y_go 600 ?_; dsimp only [Nat.reduceAdd, zq9y, t46n3, T46n3, zq9r, zq9q, Y_k, zq4u, zq8o, zq6n, Nat.reduceBEq, zq6l, zq6k, YK, zq8t, zq5i, zq29, zq5a, zq14, zq5c, zq1o, nth, zq1k, List.length_cons, List.length_nil, dropL, takeL, zq19, zq18, zq55, zq0t, zq09, zq08, zq0q, zq50, zq04, zq92, zq9b, zq0i, zq9e, zq9i, normF, zq6m, zq86, zq87, zq8c, zq9s, zq6h, zq8x, YC, zq9p, t46n2, T46n2, zq9t, zq58, zq06, zq0y, zq0v, zq15, Nat.add_zero, zq13, zq1q, zq1n, zq1c, List.nil_append, zq1b, zq9c, zq89, t46n0, T46n0, zq9x, zqa1, t46n1, T46n1, zq4w, zq8p, zq6q, zq0e, zq8a, zqa2, zq9u, popTo, zq6i, YP, t46n4, T46n4])
  refine ⟨fun hlt => ?_, fun hge => ?_⟩
  ·have hlt : i < D.es.length := by have := of_decide_eq_true hlt; omega
   refine ⟨⟨by omega, by omega⟩, _, esV_atm 0 hlt (by omega) rfl, fun h => ?_, fun h => ⟨((i + 1 : Nat) : Int), ArOk.to (by omega) (by omega) (by omega), lend_rule fun a W rep => again (i + 1) ⟨hlt, fun k hk hk2 => ?_⟩ (by omega) a W (rep.le (by simp only [dcS]; (simp only [setn, List.nil_append, List.cons_append, leF, leH_nil, leH_cons, leF_nil, lk, scp, scpL, scpO, resF, resH, resO, resV, resVL, nth, Nat.reduceBEq, Nat.reduceLT, decide_true, decide_false, List.length, List.length_cons, List.length_nil, Nat.reduceAdd, Bool.and_self, Bool.and_true, and_true, true_and, numF] <;> try simp)) (by simp only [dcS]; (simp only [setn, List.nil_append, List.cons_append, leF, leH_nil, leH_cons, leF_nil, lk, scp, scpL, scpO, resF, resH, resO, resV, resVL, nth, Nat.reduceBEq, Nat.reduceLT, decide_true, decide_false, List.length, List.length_cons, List.length_nil, Nat.reduceAdd, Bool.and_self, Bool.and_true, and_true, true_and, numF] <;> try simp)))⟩⟩
   ·have h : D.es[i].line = line := by simpa using h
    exact ret_rule (vs := [.int .i64 i]) r46 rfl rfl fun W hW => fin _ W [] (by unfold atI; rw [atL_is hlt h hno]; rfl) hW
   ·by_cases e : k = i
    ·subst e; simpa using h
    ·exact hno k (by omega) hk2
  ·have hie : i = D.es.length := by have := of_decide_eq_false hge; omega
   subst hie
   exact ret_rule (vs := [.int .i64 (-1)]) r46 rfl rfl fun W hW => fin _ W [] (by unfold atI; rw [atL_no fun k hk => hno k hk hk]; rfl) hW
theorem call_dat {C : Cx} {E : Env} {d : Option Nat} {args : List Operand} {l : List XS} {k : List KI} {F : List (Nat × SV)} (gw : Nat) (A : Option Addr) (cc : Nat) (D : Dc) (line : Int) (hl : D.es.length ≤ 1000) (r : List SO) (hP : C.P = Try.prog) (hargs : denL (dcS 0 gw 0 A cc D ++ r) (evL F args) = some [.pointer (some ⟨gw, 0, none⟩), .int .i64 line])
  (yes : ∀ (i : Nat) (hi : i < D.es.length), atL D.es line = some i → D.es[i].line = line → G C E (.ops l :: k) { F := putF F d (.val (.int .i64 i)), H := dcS 0 gw 0 A cc D ++ r }) (no : atL D.es line = none → G C E (.ops l :: k) { F := putF F d (.val (.int .i64 (-1))), H := dcS 0 gw 0 A cc D ++ r }) :
  G C E (.ops ({ dst := d, guard := none, i := .call 46 args } :: l) :: k) { F := F, H := dcS 0 gw 0 A cc D ++ r } := by
 refine call_lent (H1 := dcS 0 gw 0 A cc D) (r := r) (fun v H1' => v = .int .i64 (atI D.es line) ∧ H1' = dcS 0 gw 0 A cc D) (dc_scp gw A cc D 0) hargs (fun W hW hh => ?_) fun v H1' hv => ?_
 ·rw [hP]
  exact (at46 gw A cc D line hl hh).mono fun v W' hv => ⟨_, ⟨hv.1, rfl⟩, HExt.refl _, rfl, hv.2⟩
 obtain ⟨rfl, rfl⟩ := hv
 unfold atI
 cases h : atL D.es line with
 | some i =>
  obtain ⟨hi, he⟩ := atL_some h
  exact ⟨.val (.int .i64 i), by simp [Is], yes i hi h he⟩
 | none => exact ⟨.val (.int .i64 (-1)), by simp [Is], no h⟩
theorem call_dc {C : Cx} {E : Env} {d : Option Nat} {f : FuncId} {args : List Operand} {l : List XS} {k : List KI} {F : List (Nat × SV)} {vs : List Value} (X r : List SO) (gw v u : Nat) (A : Option Addr) (cc : Nat) (D D' : Dc) (val : Value) (sv : SV) (hP : C.P = Try.prog) (hargs : denL (X ++ (dcS X.length gw v A cc D ++ r)) (evL F args) = some vs) (hu : v < u)
  (hc : ∀ W, HeapOk E (X ++ (dcS X.length gw v A cc D ++ r)) W → HeapOk ⟨W, W.heap.size, fps (dcS 0 gw 0 A cc D), 0, []⟩ (dcS 0 gw 0 A cc D) W → CallsV Try.prog f vs W fun v1 W' => v1 = val ∧ ∃ v' A' cc', HeapOk ⟨W, W.heap.size, fps (dcS 0 gw 0 A cc D), 0, []⟩ (dcS 0 gw v' A' cc' D') W') (hsv : ∀ H, Is H sv val)
  (next : ∀ A' cc', G C E (.ops l :: k) { F := putF F d sv, H := X ++ (dcS X.length gw u A' cc' D' ++ r) }) :
  G C E (.ops ({ dst := d, guard := none, i := .call f args } :: l) :: k) { F := F, H := X ++ (dcS X.length gw v A cc D ++ r) } := by
 refine call_rule hargs (R := fun W v1 W' => v1 = val ∧ ∃ v' A' cc', HeapOk ⟨W, W.heap.size, fps (dcS 0 gw 0 A cc D), 0, []⟩ (dcS 0 gw v' A' cc' D') W') (fun W hW => ?_) fun W v1 W' hW hr => ?_
 ·rw [hP]
  exact hc W hW (dc_lend hW 0 [])
 ·obtain ⟨rfl, v', A', cc', hk⟩ := hr
  exact ⟨sv, _, hsv _, dc_ext X r gw v u A A' cc cc' D D' hu, dc_back hW hu hk, next A' cc'⟩
end Go.Proofs.Ytimmobbginjkfaa
