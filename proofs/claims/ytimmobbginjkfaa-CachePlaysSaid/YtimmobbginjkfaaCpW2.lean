/- CachePlays: the document's calls that turn entries in place (printed by mkcp.py). -/
import Derived.Test.YtimmobbginjkfaaCpW1
import Derived.Test.YtimmobbginjkfaaCaW3
import Derived.Test.YtimmobbginjkfaaCaCodeR
set_option linter.unusedSimpArgs false
set_option linter.unusedVariables false
set_option linter.unnecessarySimpa false
namespace Go.Proofs.Ytimmobbginjkfaa
open Go Go.Sx Go.Ca
set_option maxRecDepth 100000
theorem getD_is {l : List En} {i : Nat} (hi : i < l.length) : l.getD i zE = l[i] := by
 rw [List.getD_eq_getElem?_getD, List.getElem?_eq_getElem hi]; rfl
def turn (D : Dc) (i : Nat) (e : En) : Dc := { D with es := D.es.set i e }
def wordD (D : Dc) (a : Int) : Dc := if a < 0 then D else match atL D.es (quo8 a) with
 | some i => { D with uses := D.uses + 1, es := D.es.set i { D.es.getD i zE with used := D.uses + 1 } }
 | none => D
def wordDV (D : Dc) (a : Int) : Value := if a < 0 then .tuple #[.int .u64 0, .int .i64 2] else match atL D.es (quo8 a) with
 | some i => .tuple #[.int .u64 ((D.es.getD i zE).d (a % 8).toNat), .int .i64 0]
 | none => .tuple #[.int .u64 0, .int .i64 20]
def inL (l : List En) (line st : Int) : Option Nat := match atL l line with
 | some i => if st != 0 && (l.getD i zE).st != st then none else some i
 | none => none
def inLE (l : List En) (line st : Int) : Int := match inL l line st with
 | some _ => 0
 | none => 20
def putDD (D : Dc) (a v : Int) : Dc := if a < 0 then D else match inL D.es (quo8 a) 2 with
 | some i => { D with uses := D.uses + 1, es := D.es.set i { D.es.getD i zE with used := D.uses + 1, d := putD (D.es.getD i zE).d (a % 8).toNat v } }
 | none => D
def putDV (D : Dc) (a : Int) : Value := if a < 0 then .int .i64 2 else .int .i64 (inLE D.es (quo8 a) 2)
def markD (D : Dc) (line : Int) (w : Bool) : Dc := if w then (match inL D.es line 2 with
  | some i => turn D i { D.es.getD i zE with wr := true, o := if (D.es.getD i zE).wr then (D.es.getD i zE).o else (D.es.getD i zE).d }
  | none => D) else match atL D.es line with
 | some i => turn D i { D.es.getD i zE with rd := true }
 | none => D
def markDV (D : Dc) (line : Int) (w : Bool) : Value := .int .i64 (inLE D.es line (if w then 2 else 0))
def demD (D : Dc) (line : Int) : Dc := match inL D.es line 2 with
 | some i => turn D i { D.es.getD i zE with st := 1 }
 | none => D
def demDV (D : Dc) (line : Int) : Value := match inL D.es line 2 with
 | some i => .tuple #[.agg (dV (D.es.getD i zE).d).toArray, .int .i64 0]
 | none => .tuple #[.agg (dV zF).toArray, .int .i64 20]
def proD (D : Dc) (line : Int) (d : Nat → Int) : Dc := match inL D.es line 1 with
 | some i => turn D i { D.es.getD i zE with st := 2, d := d }
 | none => D
def findDV (D : Dc) (line : Int) : Value := match atL D.es line with
 | some i => .tuple #[.agg (enV (D.es.getD i zE)).toArray, .bool true]
 | none => .tuple #[.agg (enV zE).toArray, .bool false]
theorem word31 {E0 : Env} {W : World} (gw : Nat) (A : Option Addr) (cc : Nat) (D : Dc) (hl : D.es.length ≤ 1000) (hu : 0 ≤ D.uses ∧ D.uses ≤ 1000000) (a : Int) (hW : HeapOk E0 (dcS 0 gw 0 A cc D) W) :
  CallsV Try.prog 31 [.pointer (some ⟨gw, 0, none⟩), .int .i64 a] W fun v W' => v = wordDV D a ∧ ∃ v' A' cc', HeapOk E0 (dcS 0 gw v' A' cc' (wordD D a)) W' := by
 obtain ⟨b0, N, st, nt0, mk0⟩ := E0
 refine calls_lent (keep := K31) (nt := 44) (svs := [.ptr 0 0, .val (.int .i64 a)]) Try.func31 x31 n31 (by simp) hW (by simp [IsL, Is, dcS, blk, nth, SO.blk, dV, enV]) fun R hR => ?_
 have fin : ∀ (v : Value) (D1 : Dc) (W : World) (r : List SO) (vv : Nat) (A' : Option Addr) (cc' : Nat), v = wordDV D a → D1 = wordD D a → HeapOk ⟨b0, N, st, 44, []⟩ (dcS 0 gw vv A' cc' D1 ++ r) W → R v W := fun v D1 W r vv A' cc' hv hc hW => hR _ _ ⟨hv, vv, A', cc', by rw [← hc]; exact HeapOk.env (E := ⟨b0, N, st, 44, []⟩) (E' := ⟨b0, N, st, nt0, mk0⟩) rfl rfl rfl (hW.pre (dc_pre gw A' cc' D1 vv))⟩
 obtain ⟨hu0, hu1⟩ := hu
 (refine Y_go 600 ?_; dsimp only [X31, numF, Nat.reduceAdd, dcS, zq9r, zq9q, Y_k, zq4u, zq8p, zq6q, YK, zq8t, zq9i, normF, zq6n, Nat.reduceBEq, zq6l, zq6k, zq6m, zq86, zq87, zq8c, zq9y, t31n7, T31n7, zq8o, zq50, zq04, zq92, zq9b, zq0i, zq9e, zq9s, zq6h, zq8x, YC, t31n0, T31n0, zq89, zq9x, zq9p, t31n6, T31n6, zq4x, zq0f, zq9j])
 refine ⟨fun h1 => ?_, fun h1 => ⟨_, quo8_ok a, ?_⟩⟩
 ·have h1 := of_decide_eq_true h1
  exact ret_rule (vs := [.int .u64 0, .int .i64 2]) r31 rfl rfl fun W hW => fin _ D W [] 0 A cc (by unfold wordDV; rw [if_pos h1]; rfl) (by unfold wordD; rw [if_pos h1]) hW
 have h1 := of_decide_eq_false h1
 refine call_dat gw A cc D (quo8 a) hl [] rfl rfl (fun i hi hat he => ?_) (fun hno => ?_)
 ·have hv : wordDV D a = .tuple #[.int .u64 (D.es[i].d (a % 8).toNat), .int .i64 0] := by unfold wordDV; rw [if_neg h1, hat]; simp only [getD_is hi]
  have hc : wordD D a = { D with uses := D.uses + 1, es := D.es.set i { D.es[i] with used := D.uses + 1 } } := by unfold wordD; rw [if_neg h1, hat]; simp only [getD_is hi]
  dsimp only [zq8t, dcS, Nat.reduceAdd, List.cons_append, List.nil_append]
  (refine Y_go 600 ?_; dsimp only [Y_k, zq4u, zq8o, zq6n, Nat.reduceBEq, zq6k, YK, zq8t, zq9i, normF, zq6l, zq6m, zq86, zq8a, zq87, zq8c, zq9y, t31n5, T31n5, zq9r, zq9q, zq50, zq8p, zq6q, zq04, zq92, zq9b, zq0i, zq9e, zq9s, zq6h, zq8x, YC, t31n1, T31n1, zq89, zq9x, zq9p, t31n4, T31n4, zq5i, zq29, zq5a, zq14, Nat.reduceAdd, zq5c, zq1o, nth, zq1k, List.length_cons, List.length_nil, dropL, takeL, zq19, zq18, zq4w, zq0e, zq5d, zq7u, zq73, zq0a, zq1x, zq1t, zq1r, splice, setn, zq8s, t31n3, T31n3, zq58, zq06, zq0y, zq09, zq08, zq0v, zq15, zq13, zq1y, zq1w, denL, den, zq1v, t31n2, T31n2, zq4x, zq0f, zq59, zq11, zq0z, zq1q, zq1n, zq1c, List.nil_append, zq1b])
  have hm : (a % 8).toNat < 8 := by omega
  refine ⟨fun h => absurd (of_decide_eq_true h) (by omega), fun _ => ⟨D.uses + 1, ArOk.to rfl (by omega) (by omega), ⟨by omega, by omega⟩, by rw [esV_len]; omega, a % 8, DivOk.rem_nn (by omega) (by decide), ⟨by omega, by omega⟩, ⟨by omega, by omega⟩, D.es[i].d (a % 8).toNat, ?_, ?_⟩⟩
  ·rw [Int.toNat_natCast, esV_setn hi (by decide) (e := { D.es[i] with used := D.uses + 1 }) rfl, Nat.mul_one, Nat.add_assoc]
   refine esV_atm (i := i) (4 + (a % 8).toNat) (by rw [List.length_set]; exact hi) rfl ?_
   rw [d_at _ hm]
   simp
  ·rw [Int.toNat_natCast, esV_setn hi (by decide) (e := { D.es[i] with used := D.uses + 1 }) rfl]
   exact ret_rule (vs := [.int .u64 (D.es[i].d (a % 8).toNat), .int .i64 0]) r31 rfl rfl fun W hW => fin _ { D with uses := D.uses + 1, es := D.es.set i { D.es[i] with used := D.uses + 1 } } W [] 0 A cc hv.symm hc.symm (by simp only [dcS, List.length_set]; exact hW)
 ·dsimp only [zq8t, dcS, Nat.reduceAdd, List.cons_append, List.nil_append]
  (refine Y_go 600 ?_; dsimp only [Y_k, zq4u, zq8o, zq6n, Nat.reduceBEq, zq6k, YK, zq8t, zq9i, normF, zq6l, zq6m, zq86, zq8a, zq87, zq8c, zq9y, t31n5, T31n5, zq9r, zq9q, zq50, zq8p, zq6q, zq04, zq92, zq9b, zq0i, zq9e, zq9s, zq6h, zq8x, YC, t31n1, T31n1, zq89, zq9x, zq9p, t31n4, T31n4, zq5i, zq29, zq5a, zq14, Nat.reduceAdd, zq5c, zq1o, nth, zq1k, List.length_cons, List.length_nil, dropL, takeL, zq19, zq18, zq4w, zq0e, zq5d, zq7u, zq73, zq0a, zq1x, zq1t, zq1r, splice, setn, zq8s, t31n3, T31n3, zq58, zq06, zq0y, zq09, zq08, zq0v, Int.reduceToNat, Nat.reduceMul, zq15, zq13, zq1y, zq1w, denL, den, zq1v, t31n2, T31n2, zq4x, zq0f, zq59, zq11, zq0z, zq1q, zq1n, zq1c, List.nil_append, zq1b])
  refine ⟨fun _ => ?_, fun h => absurd h (by decide)⟩
  exact ret_rule (vs := [.int .u64 0, .int .i64 20]) r31 rfl rfl fun W hW => fin _ D W [] 0 A cc (by unfold wordDV; rw [if_neg h1, hno]; rfl) (by unfold wordD; rw [if_neg h1, hno]) hW
theorem put32 {E0 : Env} {W : World} (gw : Nat) (A : Option Addr) (cc : Nat) (D : Dc) (hl : D.es.length ≤ 1000) (hu : 0 ≤ D.uses ∧ D.uses ≤ 1000000) (a u : Int) (hW : HeapOk E0 (dcS 0 gw 0 A cc D) W) :
  CallsV Try.prog 32 [.pointer (some ⟨gw, 0, none⟩), .int .i64 a, .int .u64 u] W fun v W' => v = putDV D a ∧ ∃ v' A' cc', HeapOk E0 (dcS 0 gw v' A' cc' (putDD D a u)) W' := by
 obtain ⟨b0, N, st, nt0, mk0⟩ := E0
 refine calls_lent (keep := K32) (nt := 56) (svs := [.ptr 0 0, .val (.int .i64 a), .val (.int .u64 u)]) Try.func32 x32 n32 (by simp) hW (by simp [IsL, Is, dcS, blk, nth, SO.blk, dV, enV]) fun R hR => ?_
 have fin : ∀ (v : Value) (D1 : Dc) (W : World) (r : List SO) (vv : Nat) (A' : Option Addr) (cc' : Nat), v = putDV D a → D1 = putDD D a u → HeapOk ⟨b0, N, st, 56, []⟩ (dcS 0 gw vv A' cc' D1 ++ r) W → R v W := fun v D1 W r vv A' cc' hv hc hW => hR _ _ ⟨hv, vv, A', cc', by rw [← hc]; exact HeapOk.env (E := ⟨b0, N, st, 56, []⟩) (E' := ⟨b0, N, st, nt0, mk0⟩) rfl rfl rfl (hW.pre (dc_pre gw A' cc' D1 vv))⟩
 obtain ⟨hu0, hu1⟩ := hu
 (refine Y_go 600 ?_; dsimp only [X32, numF, Nat.reduceAdd, dcS, zq9r, zq9q, Y_k, zq4u, zq8p, zq6q, YK, zq8t, zq9i, normF, zq6n, Nat.reduceBEq, zq6l, zq6k, zq6m, zq86, zq87, zq8c, zq9y, t32n8, T32n8, zq8o, zq50, zq04, zq92, zq9b, zq0i, zq9e, zq9s, zq6h, zq8x, YC, t32n0, T32n0, zq89, zq9x, zq9p, t32n7, T32n7, zq4x, zq0f, zq9j])
 refine ⟨fun h1 => ?_, fun h1 => ⟨_, quo8_ok a, ?_⟩⟩
 ·have h1 := of_decide_eq_true h1
  exact ret_rule (vs := [.int .i64 2]) r32 rfl rfl fun W hW => fin _ D W [] 0 A cc (by unfold putDV; rw [if_pos h1]; rfl) (by unfold putDD; rw [if_pos h1]) hW
 have h1 := of_decide_eq_false h1
 have no : inL D.es (quo8 a) 2 = none → putDV D a = .int .i64 20 ∧ putDD D a u = D := fun h => ⟨by unfold putDV inLE; rw [if_neg h1, h], by unfold putDD; rw [if_neg h1, h]⟩
 refine call_dat gw A cc D (quo8 a) hl [] rfl rfl (fun i hi hat he => ?_) (fun hno => ?_)
 ·have yes : inL D.es (quo8 a) 2 = some i → putDV D a = .int .i64 0 ∧ putDD D a u = { D with uses := D.uses + 1, es := D.es.set i { D.es[i] with used := D.uses + 1, d := putD D.es[i].d (a % 8).toNat u } } := fun h => ⟨by unfold putDV inLE; rw [if_neg h1, h], by unfold putDD; rw [if_neg h1, h]; simp only [getD_is hi]⟩
  have hin : inL D.es (quo8 a) 2 = if D.es[i].st != 2 then none else some i := by unfold inL; rw [hat]; simp only [getD_is hi]; rfl
  dsimp only [zq8t, dcS, Nat.reduceAdd, List.cons_append, List.nil_append]
  (refine Y_go 600 ?_; dsimp only [Y_k, zq4u, zq8o, zq6n, Nat.reduceBEq, zq6k, YK, zq8t, zq9i, normF, zq6l, zq6m, zq86, zq8a, zq87, zq8c, zq9y, t32n6, T32n6, zq9r, zq9q, zq50, zq8p, zq6q, zq04, zq92, zq9b, zq0i, zq9e, Y_gk, zq6e, YS, zq6a, zq4v, zq6o, zq0b, zq89, zq9s, zq6f, YC, t32n1, T32n1, zq9x, YR, zq6c, zq5i, zq29, zq5a, zq14, Nat.reduceAdd, zq5c, zq1o, nth, zq1k, List.length_cons, List.length_nil, dropL, takeL, zq19, zq18, zq58, zq06, zq0y, zq09, zq08, zq0v, zq15, zq13, zq1q, zq1n, zq1c, List.nil_append, zq1b, zq9d, zq0c, zq6h, zq8x, zq9p, t32n5, T32n5, zq4w, zq0e, zq5d, zq7u, zq73, zq0a, zq1x, zq1t, zq1r, splice, setn, zq8s, t32n4, T32n4, zq1y, zq1w, denL, den, zq1v, t32n3, T32n3, zq4x, zq0f, zq59, zq11, zq0z, t32n2, T32n2])
  have hm : (a % 8).toNat < 8 := by omega
  refine ⟨fun h => absurd (of_decide_eq_true h) (by omega), fun _ => ⟨⟨by omega, by omega⟩, D.es[i].st, esV_atm 1 hi (by omega) rfl, fun h2 => ?_, fun h2 => ?_⟩⟩
  ·obtain ⟨q1, q2⟩ := no (by rw [hin, h2]; rfl)
   exact ret_rule (vs := [.int .i64 20]) r32 rfl rfl fun W hW => fin _ D W [] 0 A cc q1.symm q2.symm hW
  ·obtain ⟨q1, q2⟩ := yes (by rw [hin, h2]; rfl)
   refine ⟨D.uses + 1, ArOk.to rfl (by omega) (by omega), ⟨by omega, by omega⟩, by rw [esV_len]; omega, a % 8, DivOk.rem_nn (by omega) (by decide), ⟨by omega, by omega⟩, ⟨by omega, by omega⟩, ?_, ?_⟩
   ·rw [Int.toNat_natCast, esV_setn hi (by decide) (e := { D.es[i] with used := D.uses + 1 }) rfl, esV_len, List.length_set]; omega
   ·rw [Int.toNat_natCast, esV_setn hi (by decide) (e := { D.es[i] with used := D.uses + 1 }) rfl, Nat.mul_one, Nat.add_assoc, esV_setn (l := D.es.set i { D.es[i] with used := D.uses + 1 }) (i := i) (by rw [List.length_set]; exact hi) (by omega) (d_set _ u hm), List.set_set]
    simp only [List.getElem_set_self]
    exact ret_rule (vs := [.int .i64 0]) r32 rfl rfl fun W hW => fin _ { D with uses := D.uses + 1, es := D.es.set i { D.es[i] with used := D.uses + 1, d := putD D.es[i].d (a % 8).toNat u } } W [] 0 A cc q1.symm q2.symm (by simp only [dcS, List.length_set]; exact hW)
 ·obtain ⟨q1, q2⟩ := no (by unfold inL; rw [hno])
  dsimp only [zq8t, dcS, Nat.reduceAdd, List.cons_append, List.nil_append]
  (refine Y_go 600 ?_; dsimp only [Y_k, zq4u, zq8o, zq6n, Nat.reduceBEq, zq6k, YK, zq8t, zq9i, normF, zq6l, zq6m, zq86, zq8a, zq87, zq8c, zq9y, t32n6, T32n6, zq9r, zq9q, zq50, zq8p, zq6q, zq04, zq92, zq9b, zq0i, zq9e, Y_gk, zq6e, YS, zq6a, zq4v, zq6o, zq0b, zq89, zq9s, zq6f, YC, t32n1, T32n1, zq9x, YR, zq6c, zq5i, zq29, zq5a, zq14, Nat.reduceAdd, zq5c, zq1o, nth, zq1k, List.length_cons, List.length_nil, dropL, takeL, zq19, zq18, zq58, zq06, zq0y, zq09, zq08, zq0v, Int.reduceToNat, Nat.reduceMul, zq15, zq13, zq1q, zq1n, zq1c, List.nil_append, zq1b, zq9d, zq0c, zq6h, zq8x, zq9p, t32n5, T32n5, zq4w, zq0e, zq5d, zq7u, zq73, zq0a, zq1x, zq1t, zq1r, splice, setn, zq8s, t32n4, T32n4, zq1y, zq1w, denL, den, zq1v, t32n3, T32n3, zq4x, zq0f, zq59, zq11, zq0z, t32n2, T32n2])
  refine ⟨fun _ => ?_, fun h => absurd h (by decide)⟩
  exact ret_rule (vs := [.int .i64 20]) r32 rfl rfl fun W hW => fin _ D W [] 0 A cc q1.symm q2.symm hW
theorem mark33 {E0 : Env} {W : World} (gw : Nat) (A : Option Addr) (cc : Nat) (D : Dc) (hl : D.es.length ≤ 1000) (hu : 0 ≤ D.uses ∧ D.uses ≤ 1000000) (line : Int) (w : Bool) (hW : HeapOk E0 (dcS 0 gw 0 A cc D) W) :
  CallsV Try.prog 33 [.pointer (some ⟨gw, 0, none⟩), .int .i64 line, .bool w] W fun v W' => v = markDV D line w ∧ ∃ v' A' cc', HeapOk E0 (dcS 0 gw v' A' cc' (markD D line w)) W' := by
 obtain ⟨b0, N, st, nt0, mk0⟩ := E0
 refine calls_lent (keep := K33) (nt := 67) (svs := [.ptr 0 0, .val (.int .i64 line), .val (.bool w)]) Try.func33 x33 n33 (by simp) hW (by simp [IsL, Is, dcS, blk, nth, SO.blk, dV, enV]) fun R hR => ?_
 have fin : ∀ (v : Value) (D1 : Dc) (W : World) (r : List SO) (vv : Nat) (A' : Option Addr) (cc' : Nat), v = markDV D line w → D1 = markD D line w → HeapOk ⟨b0, N, st, 67, []⟩ (dcS 0 gw vv A' cc' D1 ++ r) W → R v W := fun v D1 W r vv A' cc' hv hc hW => hR _ _ ⟨hv, vv, A', cc', by rw [← hc]; exact HeapOk.env (E := ⟨b0, N, st, 67, []⟩) (E' := ⟨b0, N, st, nt0, mk0⟩) rfl rfl rfl (hW.pre (dc_pre gw A' cc' D1 vv))⟩
 obtain ⟨hu0, hu1⟩ := hu
 (refine Y_go 600 ?_; dsimp only [X33, numF, Nat.reduceAdd, dcS, zq9r, zq9q, Y_k, zq4u, zq8p, zq6q, YK, zq8t, zq9i, normF, zq6n, Nat.reduceBEq, zq6l, zq6k, zq6m, zq86, zq87, zq8c, zq9y, t33n9, T33n9, zq8o, zq9j])
 refine call_dat gw A cc D line hl [] rfl rfl (fun i hi hat he => ?_) (fun hno => ?_)
 ·dsimp only [zq8t, dcS, Nat.reduceAdd, List.cons_append, List.nil_append]
  (refine Y_go 600 ?_; dsimp only [Y_k, zq4u, zq8o, zq6n, Nat.reduceBEq, zq6k, YK, zq8t, zq9i, normF, zq6l, zq6m, zq86, zq87, zq8c, zq9y, t33n8, T33n8, zq9r, zq9q, zq50, zq8p, zq6q, zq04, zq92, zq9b, zq0i, zq9e, Y_gk, zq6e, YS, zq6a, zq02, zq4v, zq6o, zq0b, zq89, zq9s, zq6f, YC, t33n0, T33n0, zq9x, YR, zq6c, zq6d, zq69, zq5i, zq29, zq5a, zq14, Nat.reduceAdd, zq5c, zq1o, nth, zq1k, List.length_cons, List.length_nil, dropL, takeL, zq19, zq18, zq58, zq06, zq0y, zq09, zq08, zq0v, zq15, zq13, zq1q, zq1n, zq1c, List.nil_append, zq1b, zq9d, zq6p, zq0c, zq6h, zq8x, zq9p, t33n7, T33n7, zq53, zq0o, zq8a, t33n2, T33n2, zq5d, zq7v, zq7h, zq0a, zq1y, zq1w, denL, den, zq1v, splice, setn, zq8s, t33n1, T33n1, t33n6, T33n6, zq1d, t33n3, T33n3, List.cons_append, zq17, zq7t, zq8l, zq73, zq8m, zq8k, t33n5, T33n5, t33n4, T33n4, zq6b, zq6g])
  refine ⟨fun h => absurd (of_decide_eq_true h) (by omega), fun _ => ?_⟩
  cases w with
  | false =>
   refine ⟨fun h => absurd h (by decide), fun _ => ⟨fun _ => ⟨⟨by omega, by omega⟩, by rw [esV_len]; omega, ?_⟩, fun h => absurd h (by decide)⟩⟩
   rw [Int.toNat_natCast, esV_setn hi (by decide) (e := { D.es[i] with rd := true }) rfl]
   refine ret_rule (vs := [.int .i64 0]) r33 rfl rfl fun W hW => fin _ { D with es := D.es.set i { D.es[i] with rd := true } } W [] 0 A cc ?_ ?_ (by simp only [dcS, List.length_set]; exact hW)
   ·unfold markDV inLE inL; rw [hat]; rfl
   ·unfold markD; rw [hat]; simp only [getD_is hi, turn]; rfl
  | true =>
   have hin : inL D.es line 2 = if D.es[i].st != 2 then none else some i := by unfold inL; rw [hat]; simp only [getD_is hi]; rfl
   refine ⟨fun _ => ⟨⟨by omega, by omega⟩, D.es[i].st, esV_atm 1 hi (by omega) rfl, fun h2 => ?_, fun h2 => ⟨fun h => absurd h (by decide), fun _ => ⟨⟨by omega, by omega⟩, D.es[i].wr, esV_atm 3 hi (by omega) rfl, fun h3 => ⟨⟨by omega, by omega⟩, _, esV_atm 4 hi (by omega) rfl, _, esV_atm 5 hi (by omega) rfl, _, esV_atm 6 hi (by omega) rfl, _, esV_atm 7 hi (by omega) rfl, _, esV_atm 8 hi (by omega) rfl, _, esV_atm 9 hi (by omega) rfl, _, esV_atm 10 hi (by omega) rfl, _, esV_atm 11 hi (by omega) rfl, ⟨by omega, by omega⟩, by rw [esV_len]; omega, ⟨by omega, by omega⟩, ?_⟩, fun h3 => ⟨⟨by omega, by omega⟩, by rw [esV_len]; omega, ?_⟩⟩⟩⟩, fun h => absurd h (by decide)⟩
   ·refine ret_rule (vs := [.int .i64 20]) r33 rfl rfl fun W hW => fin _ D W [] 0 A cc ?_ ?_ hW
    ·unfold markDV inLE; simp only [if_true]; rw [hin, h2]; rfl
    ·unfold markD; simp only [if_true]; rw [hin, h2]; rfl
   ·have h3 : D.es[i].wr = false := by simpa using h3
    have e1 := esV_splice (l := D.es) (i := i) (k := 12) (us := dV D.es[i].d) (e := { D.es[i] with o := D.es[i].d }) hi (by simp [dV]) rfl
    have e2 := esV_setn (l := D.es.set i { D.es[i] with o := D.es[i].d }) (i := i) (k := 3) (u := .bool true) (e := { D.es[i] with wr := true, o := D.es[i].d }) (by rw [List.length_set]; exact hi) (by decide) (by simp only [List.getElem_set_self]; rfl)
    rw [List.set_set] at e2
    simp only [splice, dV] at e1
    rw [Int.toNat_natCast, e1, e2]
    refine ⟨by rw [esV_len, List.length_set]; omega, ?_⟩
    refine ret_rule (vs := [.int .i64 0]) r33 rfl rfl fun W hW => fin _ { D with es := D.es.set i { D.es[i] with wr := true, o := D.es[i].d } } W [] 0 A cc ?_ ?_ (by simp only [dcS, List.length_set]; exact hW)
    ·unfold markDV inLE; simp only [if_true]; rw [hin, h2]; rfl
    ·have hin2 : inL D.es line 2 = some i := by rw [hin, h2]; rfl
     unfold markD; simp only [if_true]; rw [hin2]; simp only [getD_is hi, turn, h3]; rfl
   ·have h3 : D.es[i].wr = true := by simpa using h3
    rw [Int.toNat_natCast, esV_setn hi (by decide) (e := { D.es[i] with wr := true }) rfl]
    refine ret_rule (vs := [.int .i64 0]) r33 rfl rfl fun W hW => fin _ { D with es := D.es.set i { D.es[i] with wr := true } } W [] 0 A cc ?_ ?_ (by simp only [dcS, List.length_set]; exact hW)
    ·unfold markDV inLE; simp only [if_true]; rw [hin, h2]; rfl
    ·have hin2 : inL D.es line 2 = some i := by rw [hin, h2]; rfl
     unfold markD; simp only [if_true]; rw [hin2]; simp only [getD_is hi, turn, h3]; rfl
 ·dsimp only [zq8t, dcS, Nat.reduceAdd, List.cons_append, List.nil_append]
  (refine Y_go 600 ?_; dsimp only [Y_k, zq4u, zq8o, zq6n, Nat.reduceBEq, zq6k, YK, zq8t, zq9i, normF, zq6l, zq6m, zq86, zq87, zq8c, zq9y, t33n8, T33n8, zq9r, zq9q, zq50, zq8p, zq6q, zq04, zq92, zq9b, zq0i, zq9e, Y_gk, zq6e, YS, zq6a, zq02, zq4v, zq6o, zq0b, zq89, zq9s, zq6f, YC, t33n0, T33n0, zq9x, YR, zq6c, zq6d, zq69, zq5i, zq29, zq5a, zq14, Nat.reduceAdd, zq5c, zq1o, nth, zq1k, List.length_cons, List.length_nil, dropL, takeL, zq19, zq18, zq58, zq06, zq0y, zq09, zq08, zq0v, Int.reduceToNat, Nat.reduceMul, zq15, zq13, zq1q, zq1n, zq1c, List.nil_append, zq1b, zq9d, zq6p, zq0c, zq6h, zq8x, zq9p, t33n7, T33n7, zq53, zq0o, zq8a, t33n2, T33n2, zq5d, zq7v, zq7h, zq0a, zq1y, zq1w, denL, den, zq1v, splice, setn, zq8s, t33n1, T33n1, t33n6, T33n6, zq1d, t33n3, T33n3, List.cons_append, zq17, zq7t, zq8l, zq73, zq8m, zq8k, t33n5, T33n5, t33n4, T33n4, zq6b, zq6g])
  refine ⟨fun _ => ?_, fun h => absurd h (by decide)⟩
  refine ret_rule (vs := [.int .i64 20]) r33 rfl rfl fun W hW => fin _ D W [] 0 A cc ?_ ?_ hW
  ·unfold markDV inLE inL; rw [hno]; rfl
  ·unfold markD inL; rw [hno]; cases w <;> rfl
theorem demote34 {E0 : Env} {W : World} (gw : Nat) (A : Option Addr) (cc : Nat) (D : Dc) (hl : D.es.length ≤ 1000) (hu : 0 ≤ D.uses ∧ D.uses ≤ 1000000) (line : Int) (hW : HeapOk E0 (dcS 0 gw 0 A cc D) W) :
  CallsV Try.prog 34 [.pointer (some ⟨gw, 0, none⟩), .int .i64 line] W fun v W' => v = demDV D line ∧ ∃ v' A' cc', HeapOk E0 (dcS 0 gw v' A' cc' (demD D line)) W' := by
 obtain ⟨b0, N, st, nt0, mk0⟩ := E0
 refine calls_lent (keep := K34) (nt := 39) (svs := [.ptr 0 0, .val (.int .i64 line)]) Try.func34 x34 n34 (by simp) hW (by simp [IsL, Is, dcS, blk, nth, SO.blk, dV, enV]) fun R hR => ?_
 have fin : ∀ (v : Value) (D1 : Dc) (W : World) (r : List SO) (vv : Nat) (A' : Option Addr) (cc' : Nat), v = demDV D line → D1 = demD D line → HeapOk ⟨b0, N, st, 39, []⟩ (dcS 0 gw vv A' cc' D1 ++ r) W → R v W := fun v D1 W r vv A' cc' hv hc hW => hR _ _ ⟨hv, vv, A', cc', by rw [← hc]; exact HeapOk.env (E := ⟨b0, N, st, 39, []⟩) (E' := ⟨b0, N, st, nt0, mk0⟩) rfl rfl rfl (hW.pre (dc_pre gw A' cc' D1 vv))⟩
 obtain ⟨hu0, hu1⟩ := hu
 (refine Y_go 600 ?_; dsimp only [X34, numF, Nat.reduceAdd, dcS, zq9r, zq9q, Y_k, zq5e, List.length_cons, List.length_nil, List.map, zq6q, List.cons_append, List.nil_append, YK, zq8t, zq4u, zq8p, zq9i, normF, zq6n, Nat.reduceBEq, zq6l, zq6k, zq6m, zq86, zq87, zq8c, zq9y, t34n4, T34n4, zq8o, zq9j])
 intro gr
 have no : inL D.es line 2 = none → demDV D line = .tuple #[.agg (dV zF).toArray, .int .i64 20] ∧ demD D line = D := fun h => ⟨by unfold demDV; rw [h], by unfold demD; rw [h]⟩
 refine call_dat gw A cc D line hl [_] rfl rfl (fun i hi hat he => ?_) (fun hno => ?_)
 ·have yes : inL D.es line 2 = some i → demDV D line = .tuple #[.agg (dV D.es[i].d).toArray, .int .i64 0] ∧ demD D line = { D with es := D.es.set i { D.es[i] with st := 1 } } := fun h => ⟨by unfold demDV; rw [h]; simp only [getD_is hi], by unfold demD; rw [h]; simp only [getD_is hi, turn]⟩
  have hin : inL D.es line 2 = if D.es[i].st != 2 then none else some i := by unfold inL; rw [hat]; simp only [getD_is hi]; rfl
  dsimp only [zq8t, dcS, Nat.reduceAdd, List.cons_append, List.nil_append]
  (refine Y_go 600 ?_; dsimp only [Y_k, zq4u, zq8o, zq6n, Nat.reduceBEq, zq6k, YK, zq8t, zq9i, normF, zq6l, zq6m, zq86, zq87, zq8c, zq9y, t34n3, T34n3, zq9r, zq9q, zq50, zq8p, zq6q, zq04, zq92, zq9b, zq0i, zq9e, Y_gk, zq6e, YS, zq6a, zq4v, zq6o, zq0b, zq89, zq9s, zq6f, YC, t34n0, T34n0, zq5g, List.map, zq22, zq25, zq5d, zq7t, List.length_cons, List.length_nil, Nat.reduceAdd, zq8l, zq73, zq8m, zq8k, zq0a, zq1x, nth, zq1t, dropL, takeL, zq1r, splice, setn, zq8s, zq9x, YR, zq6c, zq5i, zq29, zq5a, zq14, zq5c, zq1o, zq1k, zq19, zq18, zq58, zq06, zq0y, zq09, zq08, zq0v, zq15, zq13, zq1q, zq1n, zq1c, List.nil_append, zq1b, zq9d, zq0c, zq6h, zq8x, zq9p, t34n2, T34n2, zq7u, zq1y, zq1w, denL, den, zq1v, zq8a, t34n1, T34n1, List.cons_append, zq17])
  refine ⟨fun h => absurd (of_decide_eq_true h) (by omega), fun _ => ⟨⟨by omega, by omega⟩, D.es[i].st, esV_atm 1 hi (by omega) rfl, fun h2 => ?_, fun h2 => ⟨⟨by omega, by omega⟩, by rw [esV_len]; omega, ⟨by omega, by omega⟩, ?_⟩⟩⟩
  ·obtain ⟨q1, q2⟩ := no (by rw [hin, h2]; rfl)
   exact ret_rv (vs := [.agg (dV zF).toArray, .int .i64 20]) r34 rfl rfl fun W hW => fin _ D W [_] 0 A cc (by rw [q1]; rfl) q2.symm hW
  ·obtain ⟨q1, q2⟩ := yes (by rw [hin, h2]; rfl)
   have u : ∀ k v, (enV { D.es[i] with st := 1 })[k]? = some v → (esV (D.es.set i { D.es[i] with st := 1 }))[i * 21 + k]? = some v := fun k v h => esV_atm (i := i) k (by rw [List.length_set]; exact hi) rfl (by simpa using h)
   rw [Int.toNat_natCast, esV_setn hi (by decide) (e := { D.es[i] with st := 1 }) rfl]
   refine ⟨_, u 4 _ rfl, _, u 5 _ rfl, _, u 6 _ rfl, _, u 7 _ rfl, _, u 8 _ rfl, _, u 9 _ rfl, _, u 10 _ rfl, _, u 11 _ rfl, ?_⟩
   exact ret_rv (vs := [.agg (dV D.es[i].d).toArray, .int .i64 0]) r34 rfl rfl fun W hW => fin _ { D with es := D.es.set i { D.es[i] with st := 1 } } W [_] 0 A cc (by rw [q1]; rfl) q2.symm (by simp only [dcS, List.length_set]; exact hW)
 ·obtain ⟨q1, q2⟩ := no (by unfold inL; rw [hno])
  dsimp only [zq8t, dcS, Nat.reduceAdd, List.cons_append, List.nil_append]
  (refine Y_go 600 ?_; dsimp only [Y_k, zq4u, zq8o, zq6n, Nat.reduceBEq, zq6k, YK, zq8t, zq9i, normF, zq6l, zq6m, zq86, zq87, zq8c, zq9y, t34n3, T34n3, zq9r, zq9q, zq50, zq8p, zq6q, zq04, zq92, zq9b, zq0i, zq9e, Y_gk, zq6e, YS, zq6a, zq4v, zq6o, zq0b, zq89, zq9s, zq6f, YC, t34n0, T34n0, zq5g, List.map, zq22, zq25, zq5d, zq7t, List.length_cons, List.length_nil, Nat.reduceAdd, zq8l, zq73, zq8m, zq8k, zq0a, zq1x, nth, zq1t, dropL, takeL, zq1r, splice, setn, zq8s, zq9x, YR, zq6c, zq5i, zq29, zq5a, zq14, zq5c, zq1o, zq1k, zq19, zq18, zq58, zq06, zq0y, zq09, zq08, zq0v, Int.reduceToNat, Nat.reduceMul, zq15, zq13, zq1q, zq1n, zq1c, List.nil_append, zq1b, zq9d, zq0c, zq6h, zq8x, zq9p, t34n2, T34n2, zq7u, zq1y, zq1w, denL, den, zq1v, zq8a, t34n1, T34n1, List.cons_append, zq17])
  refine ⟨fun _ => ?_, fun h => absurd h (by decide)⟩
  exact ret_rv (vs := [.agg (dV zF).toArray, .int .i64 20]) r34 rfl rfl fun W hW => fin _ D W [_] 0 A cc (by rw [q1]; rfl) q2.symm hW
theorem promote35 {E0 : Env} {W : World} (gw : Nat) (A : Option Addr) (cc : Nat) (D : Dc) (hl : D.es.length ≤ 1000) (hu : 0 ≤ D.uses ∧ D.uses ≤ 1000000) (line : Int) (d : Nat → Int) (hW : HeapOk E0 (dcS 0 gw 0 A cc D) W) :
  CallsV Try.prog 35 [.pointer (some ⟨gw, 0, none⟩), .int .i64 line, .agg (dV d).toArray] W fun v W' => v = .int .i64 (inLE D.es line 1) ∧ ∃ v' A' cc', HeapOk E0 (dcS 0 gw v' A' cc' (proD D line d)) W' := by
 obtain ⟨b0, N, st, nt0, mk0⟩ := E0
 refine calls_lent (keep := K35) (nt := 39) (svs := [.ptr 0 0, .val (.int .i64 line), .agg [.val (.int .u64 (d 0)), .val (.int .u64 (d 1)), .val (.int .u64 (d 2)), .val (.int .u64 (d 3)), .val (.int .u64 (d 4)), .val (.int .u64 (d 5)), .val (.int .u64 (d 6)), .val (.int .u64 (d 7))]]) Try.func35 x35 n35 (by simp) hW (by simp [IsL, Is, dcS, blk, nth, SO.blk, dV, enV]) fun R hR => ?_
 have fin : ∀ (v : Value) (D1 : Dc) (W : World) (r : List SO) (vv : Nat) (A' : Option Addr) (cc' : Nat), v = .int .i64 (inLE D.es line 1) → D1 = proD D line d → HeapOk ⟨b0, N, st, 39, []⟩ (dcS 0 gw vv A' cc' D1 ++ r) W → R v W := fun v D1 W r vv A' cc' hv hc hW => hR _ _ ⟨hv, vv, A', cc', by rw [← hc]; exact HeapOk.env (E := ⟨b0, N, st, 39, []⟩) (E' := ⟨b0, N, st, nt0, mk0⟩) rfl rfl rfl (hW.pre (dc_pre gw A' cc' D1 vv))⟩
 obtain ⟨hu0, hu1⟩ := hu
 (refine Y_go 600 ?_; dsimp only [X35, numF, Nat.reduceAdd, dcS, zq9r, zq9q, Y_k, zq5f, zq8o, zq6n, Nat.reduceBEq, zq6l, zq6k, zq7t, List.length_cons, List.length_nil, zq8l, zq73, zq8m, zq8k, zq0a, zq1z, List.cons_append, List.nil_append, YK, zq8t, zq4u, zq8p, zq6q, zq9i, normF, zq6m, zq86, zq87, zq8c, zq88, zq9y, t35n5, T35n5, zq9j])
 intro gb
 have no : inL D.es line 1 = none → inLE D.es line 1 = 20 ∧ proD D line d = D := fun h => ⟨by unfold inLE; rw [h], by unfold proD; rw [h]⟩
 refine call_dat gw A cc D line hl [_] rfl rfl (fun i hi hat he => ?_) (fun hno => ?_)
 ·have yes : inL D.es line 1 = some i → inLE D.es line 1 = 0 ∧ proD D line d = { D with es := D.es.set i { D.es[i] with st := 2, d := d } } := fun h => ⟨by unfold inLE; rw [h], by unfold proD; rw [h]; simp only [getD_is hi, turn]⟩
  have hin : inL D.es line 1 = if D.es[i].st != 1 then none else some i := by unfold inL; rw [hat]; simp only [getD_is hi]; rfl
  dsimp only [zq8t, dcS, Nat.reduceAdd, List.cons_append, List.nil_append]
  (refine Y_go 600 ?_; dsimp only [Y_k, zq4u, zq8o, zq6n, Nat.reduceBEq, zq6k, YK, zq8t, zq9i, normF, zq6l, zq6m, zq86, zq87, zq8c, zq88, zq9y, t35n4, T35n4, zq9r, zq9q, zq50, zq8p, zq6q, zq04, zq92, zq9b, zq0i, zq9e, Y_gk, zq6e, YS, zq6a, zq4v, zq6o, zq0b, zq89, zq9s, zq6f, YC, t35n0, T35n0, zq9x, YR, zq6c, zq5i, zq29, zq5a, zq14, Nat.reduceAdd, zq5c, zq1o, nth, zq1k, List.length_cons, List.length_nil, dropL, takeL, zq19, zq18, zq58, zq06, zq0y, zq09, zq08, zq0v, zq15, zq13, zq1q, zq1n, zq1c, List.nil_append, zq1b, zq9d, zq0c, zq6h, zq8x, zq9p, t35n3, T35n3, zq5d, zq7u, zq73, zq0a, zq1y, zq1w, denL, den, zq1v, splice, setn, zq8s, zq8a, t35n2, T35n2, zq17, zq7t, zq8l, zq8m, zq8k, t35n1, T35n1])
  refine ⟨fun h => absurd (of_decide_eq_true h) (by omega), fun _ => ⟨⟨by omega, by omega⟩, D.es[i].st, esV_atm 1 hi (by omega) rfl, fun h2 => ?_, fun h2 => ⟨⟨by omega, by omega⟩, by rw [esV_len]; omega, ⟨by omega, by omega⟩, ?_⟩⟩⟩
  ·obtain ⟨q1, q2⟩ := no (by rw [hin, h2]; rfl)
   exact ret_rule (vs := [.int .i64 20]) r35 rfl rfl fun W hW => fin _ D W [_] 0 A cc (by rw [q1]; rfl) q2.symm hW
  ·obtain ⟨q1, q2⟩ := yes (by rw [hin, h2]; rfl)
   have e1 := esV_setn (l := D.es) (u := .int .i64 2) hi (k := 1) (by decide) (e := { D.es[i] with st := 2 }) rfl
   have e2 := esV_splice (l := D.es.set i { D.es[i] with st := 2 }) (i := i) (k := 4) (us := dV d) (e := { D.es[i] with st := 2, d := d }) (by rw [List.length_set]; exact hi) (by simp [dV]) (by simp only [List.getElem_set_self]; rfl)
   rw [List.set_set] at e2
   simp only [splice, dV] at e2
   rw [Int.toNat_natCast, e1]
   refine ⟨by rw [esV_len, List.length_set]; omega, ?_⟩
   rw [e2]
   exact ret_rule (vs := [.int .i64 0]) r35 rfl rfl fun W hW => fin _ { D with es := D.es.set i { D.es[i] with st := 2, d := d } } W [_] 0 A cc (by rw [q1]; rfl) q2.symm (by simp only [dcS, List.length_set]; exact hW)
 ·obtain ⟨q1, q2⟩ := no (by unfold inL; rw [hno])
  dsimp only [zq8t, dcS, Nat.reduceAdd, List.cons_append, List.nil_append]
  (refine Y_go 600 ?_; dsimp only [Y_k, zq4u, zq8o, zq6n, Nat.reduceBEq, zq6k, YK, zq8t, zq9i, normF, zq6l, zq6m, zq86, zq87, zq8c, zq88, zq9y, t35n4, T35n4, zq9r, zq9q, zq50, zq8p, zq6q, zq04, zq92, zq9b, zq0i, zq9e, Y_gk, zq6e, YS, zq6a, zq4v, zq6o, zq0b, zq89, zq9s, zq6f, YC, t35n0, T35n0, zq9x, YR, zq6c, zq5i, zq29, zq5a, zq14, Nat.reduceAdd, zq5c, zq1o, nth, zq1k, List.length_cons, List.length_nil, dropL, takeL, zq19, zq18, zq58, zq06, zq0y, zq09, zq08, zq0v, Int.reduceToNat, Nat.reduceMul, zq15, zq13, zq1q, zq1n, zq1c, List.nil_append, zq1b, zq9d, zq0c, zq6h, zq8x, zq9p, t35n3, T35n3, zq5d, zq7u, zq73, zq0a, zq1y, zq1w, denL, den, zq1v, splice, setn, zq8s, zq8a, t35n2, T35n2, zq17, zq7t, zq8l, zq8m, zq8k, t35n1, T35n1])
  refine ⟨fun _ => ?_, fun h => absurd h (by decide)⟩
  exact ret_rule (vs := [.int .i64 20]) r35 rfl rfl fun W hW => fin _ D W [_] 0 A cc (by rw [q1]; rfl) q2.symm hW
theorem find39 {E0 : Env} {W : World} (gw : Nat) (A : Option Addr) (cc : Nat) (D : Dc) (hl : D.es.length ≤ 1000) (hu : 0 ≤ D.uses ∧ D.uses ≤ 1000000) (line : Int) (hW : HeapOk E0 (dcS 0 gw 0 A cc D) W) :
  CallsV Try.prog 39 [.pointer (some ⟨gw, 0, none⟩), .int .i64 line] W fun v W' => v = findDV D line ∧ ∃ v' A' cc', HeapOk E0 (dcS 0 gw v' A' cc' (D)) W' := by
 obtain ⟨b0, N, st, nt0, mk0⟩ := E0
 refine calls_lent (keep := K39) (nt := 20) (svs := [.ptr 0 0, .val (.int .i64 line)]) Try.func39 x39 n39 (by simp) hW (by simp [IsL, Is, dcS, blk, nth, SO.blk, dV, enV]) fun R hR => ?_
 have fin : ∀ (v : Value) (D1 : Dc) (W : World) (r : List SO) (vv : Nat) (A' : Option Addr) (cc' : Nat), v = findDV D line → D1 = D → HeapOk ⟨b0, N, st, 20, []⟩ (dcS 0 gw vv A' cc' D1 ++ r) W → R v W := fun v D1 W r vv A' cc' hv hc hW => hR _ _ ⟨hv, vv, A', cc', by rw [← hc]; exact HeapOk.env (E := ⟨b0, N, st, 20, []⟩) (E' := ⟨b0, N, st, nt0, mk0⟩) rfl rfl rfl (hW.pre (dc_pre gw A' cc' D1 vv))⟩
 obtain ⟨hu0, hu1⟩ := hu
 (refine Y_go 600 ?_; dsimp only [X39, numF, Nat.reduceAdd, dcS, zq9r, zq9q, Y_k, zq5e, List.length_cons, List.length_nil, List.map, zq6q, zq6p, List.cons_append, List.nil_append, YK, zq8t, zq4u, zq8p, zq9i, normF, zq6n, Nat.reduceBEq, zq6l, zq6k, zq6m, zq86, zq8a, zq8c, zq87, zq9y, t39n3, T39n3, zq8o, zq9j])
 intro gr
 refine call_dat gw A cc D line hl [_] rfl rfl (fun i hi hat he => ?_) (fun hno => ?_)
 ·have hv : findDV D line = .tuple #[.agg (enV D.es[i]).toArray, .bool true] := by unfold findDV; rw [hat]; simp only [getD_is hi]
  dsimp only [zq8t, dcS, Nat.reduceAdd, List.cons_append, List.nil_append]
  (refine Y_go 600 ?_; dsimp only [Y_k, zq4u, zq8o, zq6n, Nat.reduceBEq, zq6k, YK, zq8t, zq9i, normF, zq6l, zq6m, zq86, zq87, zq8a, zq8c, zq9y, t39n2, T39n2, zq9r, zq9q, zq50, zq8p, zq6q, zq04, zq92, zq9b, zq0i, zq9e, zq9s, zq6h, zq8x, YC, t39n0, T39n0, zq5g, List.map, zq6p, zq22, zq25, zq5d, zq7t, List.length_cons, List.length_nil, Nat.reduceAdd, zq8l, zq73, zq8m, zq7i, zq8k, zq0a, zq1x, nth, zq1t, dropL, takeL, zq1r, splice, setn, zq8s, zq89, zq9x, zq9p, t39n1, T39n1, zq5i, zq29, zq5a, zq14, zq5c, zq1o, zq1k, zq19, zq18, zq58, zq06, zq0y, zq09, zq08, zq0v, zq1q, zq1n, zq1c, List.nil_append, List.cons_append, zq1d, zq1b, zq17, zq7g, zq6o])
  refine ⟨fun h => absurd (of_decide_eq_true h) (by omega), fun _ => ⟨⟨by omega, by omega⟩, _, esV_atm 0 hi (by omega) rfl, _, esV_atm 1 hi (by omega) rfl, _, esV_atm 2 hi (by omega) rfl, _, esV_atm 3 hi (by omega) rfl, _, esV_atm 4 hi (by omega) rfl, _, esV_atm 5 hi (by omega) rfl, _, esV_atm 6 hi (by omega) rfl, _, esV_atm 7 hi (by omega) rfl, _, esV_atm 8 hi (by omega) rfl, _, esV_atm 9 hi (by omega) rfl, _, esV_atm 10 hi (by omega) rfl, _, esV_atm 11 hi (by omega) rfl, _, esV_atm 12 hi (by omega) rfl, _, esV_atm 13 hi (by omega) rfl, _, esV_atm 14 hi (by omega) rfl, _, esV_atm 15 hi (by omega) rfl, _, esV_atm 16 hi (by omega) rfl, _, esV_atm 17 hi (by omega) rfl, _, esV_atm 18 hi (by omega) rfl, _, esV_atm 19 hi (by omega) rfl, _, esV_atm 20 hi (by omega) rfl, ?_⟩⟩
  exact ret_rv (vs := [.agg (enV D.es[i]).toArray, .bool true]) r39 rfl rfl fun W hW => fin _ D W [_] 0 A cc (by rw [hv]; rfl) rfl hW
 ·dsimp only [zq8t, dcS, Nat.reduceAdd, List.cons_append, List.nil_append]
  (refine Y_go 600 ?_; dsimp only [Y_k, zq4u, zq8o, zq6n, Nat.reduceBEq, zq6k, YK, zq8t, zq9i, normF, zq6l, zq6m, zq86, zq87, zq8a, zq8c, zq9y, t39n2, T39n2, zq9r, zq9q, zq50, zq8p, zq6q, zq04, zq92, zq9b, zq0i, zq9e, zq9s, zq6h, zq8x, YC, t39n0, T39n0, zq5g, List.map, zq6p, zq22, zq25, zq5d, zq7t, List.length_cons, List.length_nil, Nat.reduceAdd, zq8l, zq73, zq8m, zq7i, zq8k, zq0a, zq1x, nth, zq1t, dropL, takeL, zq1r, splice, setn, zq8s, zq89, zq9x, zq9p, t39n1, T39n1, zq5i, zq29, zq5a, zq14, zq5c, zq1o, zq1k, zq19, zq18, zq58, zq06, zq0y, zq09, zq08, zq0v, Int.reduceToNat, Nat.reduceMul, zq1q, zq1n, zq1c, List.nil_append, List.cons_append, zq1d, zq1b, zq17, zq7g, zq6o])
  refine ⟨fun _ => ?_, fun h => absurd h (by decide)⟩
  exact ret_rv (vs := [.agg (enV zE).toArray, .bool false]) r39 rfl rfl fun W hW => fin _ D W [_] 0 A cc (by unfold findDV; rw [hno]; rfl) rfl hW
end Go.Proofs.Ytimmobbginjkfaa
