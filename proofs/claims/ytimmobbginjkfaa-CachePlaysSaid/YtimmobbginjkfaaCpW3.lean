/- CachePlays: the document's Commit and Discard. -/
import Derived.Test.YtimmobbginjkfaaCpW2
import Derived.Test.YtimmobbginjkfaaCaCodeR
set_option linter.unusedSimpArgs false
set_option linter.unusedVariables false
set_option linter.unnecessarySimpa false
namespace Go.Proofs.Ytimmobbginjkfaa
open Go Go.Sx Go.Ca
set_option maxRecDepth 100000
def mapTo (g : En → En) (l : List En) (i : Nat) : List En := (l.take i).map g ++ l.drop i
theorem mapTo_len (g : En → En) (l : List En) (i : Nat) : (mapTo g l i).length = l.length := by
 unfold mapTo; simp; omega
theorem mapTo_at (g : En → En) (l : List En) {i : Nat} (hi : i < l.length) : ∀ h : i < (mapTo g l i).length, (mapTo g l i)[i] = l[i] := fun h => by
 have hm : ((l.take i).map g).length = i := by rw [List.length_map, List.length_take]; omega
 have e : (mapTo g l i)[i]? = some l[i] := by
  unfold mapTo
  rw [List.getElem?_append_right (by omega), hm, Nat.sub_self, List.getElem?_drop, Nat.add_zero, List.getElem?_eq_getElem hi]
 exact (List.getElem?_eq_some_iff.1 e).2
theorem mapTo_succ (g : En → En) (l : List En) {i : Nat} (hi : i < l.length) : (mapTo g l i).set i (g l[i]) = mapTo g l (i + 1) := by
 have hm : ((l.take i).map g).length = i := by rw [List.length_map, List.length_take]; omega
 have e : l.drop i = l[i] :: l.drop (i + 1) := List.drop_eq_getElem_cons hi
 unfold mapTo
 rw [List.set_append_right _ _ (by omega), hm, Nat.sub_self, e, List.set_cons_zero, List.take_add_one, List.getElem?_eq_getElem hi, List.map_append, List.append_assoc]
 rfl
theorem mapTo_all (g : En → En) (l : List En) : mapTo g l l.length = l.map g := by
 unfold mapTo; simp
def clrE (e : En) : En := { e with rd := false, wr := false, o := zF }
def disE (e : En) : En := if e.wr then { e with d := e.o } else e
def comD (D : Dc) : Dc := { D with es := D.es.map clrE }
def disD (D : Dc) : Dc := comD { D with es := D.es.map disE }
theorem commit37 {E0 : Env} {W : World} (gw : Nat) (A : Option Addr) (cc : Nat) (D : Dc) (hl : D.es.length ≤ 1000) (hW : HeapOk E0 (dcS 0 gw 0 A cc D) W) :
  CallsV Try.prog 37 [.pointer (some ⟨gw, 0, none⟩)] W fun v W' => v = .tuple #[] ∧ ∃ v' A' cc', HeapOk E0 (dcS 0 gw v' A' cc' (comD D)) W' := by
 obtain ⟨b0, N, st, nt0, mk0⟩ := E0
 refine calls_lent (keep := K37) (nt := 34) (svs := [.ptr 0 0]) Try.func37 x37 n37 (by simp) hW (by simp [IsL, Is, dcS, blk, nth, SO.blk]) fun R hR => ?_
 have fin : ∀ (v : Value) (D1 : Dc) (W : World) (r : List SO) (vv : Nat) (A' : Option Addr) (cc' : Nat), v = .tuple #[] → D1 = comD D → HeapOk ⟨b0, N, st, 34, []⟩ (dcS 0 gw vv A' cc' D1 ++ r) W → R v W := fun v D1 W r vv A' cc' hv hc hW => hR _ _ ⟨hv, vv, A', cc', by rw [← hc]; exact HeapOk.env (E := ⟨b0, N, st, 34, []⟩) (E' := ⟨b0, N, st, nt0, mk0⟩) rfl rfl rfl (hW.pre (dc_pre gw A' cc' D1 vv))⟩
 (refine Y_go 600 ?_; dsimp only [X37, numF, Nat.reduceAdd, dcS, zq9r, zq9q, Y_k, zq4u, zq8p, zq6q, YK, zq8t, zq9i, normF, zq6n, Nat.reduceBEq, zq6l, zq6k, zq6m, zq86, zq87, zq8c, zq9t, zq9v])
 refine loop_go (α := Nat) (fun i => i ≤ D.es.length) (fun _ => ⟨b0, N, st, 34, []⟩)
  (fun i => { F := [(0, .ptr 0 0), (2, .val (.int .i64 i))], H := [.cells gw 47 [.val (.int .i64 D.sets), .val (.int .i64 D.ways), .own 1 0, .val (.int .i64 D.uses)], .own 44 0 21 A D.es.length cc (esV (mapTo clrE D.es i))] }) (fun i => D.es.length - i) (fun _ => rfl) ?start ?round
 case start =>
  intro a W rep
  exact ⟨0, Nat.zero_le _, rep.le (by (simp only [setn, List.nil_append, List.cons_append, leF, leH_nil, leH_cons, leF_nil, lk, scp, scpL, scpO, resF, resH, resO, resV, resVL, nth, Nat.reduceBEq, Nat.reduceLT, decide_true, decide_false, List.length, List.length_cons, List.length_nil, Nat.reduceAdd, Bool.and_self, Bool.and_true, and_true, true_and, numF] <;> try simp)) (by simp only [mapTo, List.take_zero, List.map_nil, List.nil_append, List.drop_zero]; (simp only [setn, List.nil_append, List.cons_append, leF, leH_nil, leH_cons, leF_nil, lk, scp, scpL, scpO, resF, resH, resO, resV, resVL, nth, Nat.reduceBEq, Nat.reduceLT, decide_true, decide_false, List.length, List.length_cons, List.length_nil, Nat.reduceAdd, Bool.and_self, Bool.and_true, and_true, true_and, numF] <;> try simp))⟩
 case round =>
  rintro i hi I again
  (refine Y_go 600 ?_; dsimp only [zq9y, t37n4, T37n4, zq9r, zq9q, Y_k, zq4u, zq8o, zq6n, Nat.reduceBEq, zq6l, zq6k, YK, zq8t, zq5i, zq29, zq5a, zq14, Nat.reduceAdd, zq5c, zq1o, nth, zq1k, List.length_cons, List.length_nil, dropL, takeL, zq19, zq18, zq55, zq0t, zq09, zq08, zq0q, zq50, zq04, zq92, zq9b, zq0i, zq9e, zq9i, normF, zq87, zq8c, zq9s, zq6h, zq8x, YC, zq9p, t37n3, T37n3, zq9t, zq58, zq06, zq0y, zq0v, zq15, zq13, zq5d, zq8p, zq6p, zq7w, zq7i, zq0a, zq1y, zq1w, denL, den, zq1v, splice, setn, zq8s, zq89, t37n1, T37n1, t37n0, T37n0, zq5g, List.map, zq6q, zq22, zq25, zq7t, zq8l, zq73, zq8m, zq8k, zqa1, t37n2, T37n2, zq4w, zq0e, zqa2, zq9u, popTo, zq6i, YP, zqa3])
  refine ⟨fun hlt => ?_, fun hge => ?_⟩
  ·have hlt : i < D.es.length := by have := of_decide_eq_true hlt; omega
   have hat := mapTo_at clrE D.es hlt
   have hsu := mapTo_succ clrE D.es hlt
   have hle := mapTo_len clrE D.es i
   have hgo : ∀ l, mapTo clrE D.es (i + 1) = l → ∀ (a : Act) (W : World), Rep ⟨b0, N, st, 34, []⟩ { F := [(0, .ptr 0 0), (2, .val (.int .i64 ((i + 1 : Nat) : Int)))], H := [.cells gw 47 [.val (.int .i64 D.sets), .val (.int .i64 D.ways), .own 1 0, .val (.int .i64 D.uses)], .own 44 0 21 A D.es.length cc (esV l)] } a W → I a W := fun l h a W rep => by subst h; exact again (i + 1) hlt (by omega) a W rep
   generalize mapTo clrE D.es i = m at hat hsu hle ⊢
   have hm : i < m.length := by omega
   have hat := hat hm
   generalize D.es[i] = e at hat hsu
   have e1 := esV_setn (l := m) (i := i) (k := 2) (u := .bool false) (e := { e with rd := false }) hm (by decide) (by rw [hat]; rfl)
   have e2 := esV_setn (l := m.set i { e with rd := false }) (i := i) (k := 3) (u := .bool false) (e := { e with rd := false, wr := false }) (by rw [List.length_set]; exact hm) (by decide) (by simp only [List.getElem_set_self]; rfl)
   rw [List.set_set] at e2
   have e3 := esV_splice (l := m.set i { e with rd := false, wr := false }) (i := i) (k := 12) (us := [.int .u64 0, .int .u64 0, .int .u64 0, .int .u64 0, .int .u64 0, .int .u64 0, .int .u64 0, .int .u64 0]) (e := clrE e) (by rw [List.length_set]; exact hm) (by decide) (by simp only [List.getElem_set_self]; rfl)
   rw [List.set_set] at e3
   simp only [splice] at e3
   rw [Int.toNat_natCast, e1, e2, e3]
   refine ⟨⟨by omega, by omega⟩, by rw [esV_len]; omega, ⟨by omega, by omega⟩, by rw [esV_len, List.length_set]; omega, ⟨by omega, by omega⟩, by rw [esV_len, List.length_set]; omega, ((i + 1 : Nat) : Int), ArOk.to (by omega) (by omega) (by omega), lend_rule fun a W rep => hgo _ hsu.symm a W (rep.le (by (simp only [setn, List.nil_append, List.cons_append, leF, leH_nil, leH_cons, leF_nil, lk, scp, scpL, scpO, resF, resH, resO, resV, resVL, nth, Nat.reduceBEq, Nat.reduceLT, decide_true, decide_false, List.length, List.length_cons, List.length_nil, Nat.reduceAdd, Bool.and_self, Bool.and_true, and_true, true_and, numF] <;> try simp)) (by (simp only [setn, List.nil_append, List.cons_append, leF, leH_nil, leH_cons, leF_nil, lk, scp, scpL, scpO, resF, resH, resO, resV, resVL, nth, Nat.reduceBEq, Nat.reduceLT, decide_true, decide_false, List.length, List.length_cons, List.length_nil, Nat.reduceAdd, Bool.and_self, Bool.and_true, and_true, true_and, numF] <;> try simp)))⟩
  ·have hie : i = D.es.length := by have := of_decide_eq_false hge; omega
   subst hie
   exact ret_rule (keep := K37) (tab := T37) (vs := []) r37 rfl rfl fun W hW => fin _ (comD D) W [] 0 A cc rfl rfl (by simp only [dcS, comD, List.length_map]; rw [← mapTo_all]; exact hW)
theorem discard38 {E0 : Env} {W : World} (gw : Nat) (A : Option Addr) (cc : Nat) (D : Dc) (hl : D.es.length ≤ 1000) (hW : HeapOk E0 (dcS 0 gw 0 A cc D) W) :
  CallsV Try.prog 38 [.pointer (some ⟨gw, 0, none⟩)] W fun v W' => v = .tuple #[] ∧ ∃ v' A' cc', HeapOk E0 (dcS 0 gw v' A' cc' (disD D)) W' := by
 obtain ⟨b0, N, st, nt0, mk0⟩ := E0
 refine calls_lent (keep := K38) (nt := 37) (svs := [.ptr 0 0]) Try.func38 x38 n38 (by simp) hW (by simp [IsL, Is, dcS, blk, nth, SO.blk]) fun R hR => ?_
 have fin : ∀ (v : Value) (D1 : Dc) (W : World) (r : List SO) (vv : Nat) (A' : Option Addr) (cc' : Nat), v = .tuple #[] → D1 = disD D → HeapOk ⟨b0, N, st, 37, []⟩ (dcS 0 gw vv A' cc' D1 ++ r) W → R v W := fun v D1 W r vv A' cc' hv hc hW => hR _ _ ⟨hv, vv, A', cc', by rw [← hc]; exact HeapOk.env (E := ⟨b0, N, st, 37, []⟩) (E' := ⟨b0, N, st, nt0, mk0⟩) rfl rfl rfl (hW.pre (dc_pre gw A' cc' D1 vv))⟩
 (refine Y_go 600 ?_; dsimp only [X38, numF, Nat.reduceAdd, dcS, zq9r, zq9q, Y_k, zq4u, zq8p, zq6q, YK, zq8t, zq9i, normF, zq6n, Nat.reduceBEq, zq6l, zq6k, zq6m, zq86, zq87, zq8c, zq9t, zq9v])
 refine loop_go (α := Nat) (fun i => i ≤ D.es.length) (fun _ => ⟨b0, N, st, 37, []⟩)
  (fun i => { F := [(0, .ptr 0 0), (2, .val (.int .i64 i))], H := [.cells gw 47 [.val (.int .i64 D.sets), .val (.int .i64 D.ways), .own 1 0, .val (.int .i64 D.uses)], .own 44 0 21 A D.es.length cc (esV (mapTo disE D.es i))] }) (fun i => D.es.length - i) (fun _ => rfl) ?start ?round
 case start =>
  intro a W rep
  exact ⟨0, Nat.zero_le _, rep.le (by (simp only [setn, List.nil_append, List.cons_append, leF, leH_nil, leH_cons, leF_nil, lk, scp, scpL, scpO, resF, resH, resO, resV, resVL, nth, Nat.reduceBEq, Nat.reduceLT, decide_true, decide_false, List.length, List.length_cons, List.length_nil, Nat.reduceAdd, Bool.and_self, Bool.and_true, and_true, true_and, numF] <;> try simp)) (by simp only [mapTo, List.take_zero, List.map_nil, List.nil_append, List.drop_zero]; (simp only [setn, List.nil_append, List.cons_append, leF, leH_nil, leH_cons, leF_nil, lk, scp, scpL, scpO, resF, resH, resO, resV, resVL, nth, Nat.reduceBEq, Nat.reduceLT, decide_true, decide_false, List.length, List.length_cons, List.length_nil, Nat.reduceAdd, Bool.and_self, Bool.and_true, and_true, true_and, numF] <;> try simp))⟩
 case round =>
  rintro i hi I again
  (refine Y_go 600 ?_; dsimp only [zq9y, t38n3, T38n3, zq9r, zq9q, Y_k, zq4u, zq8o, zq6n, Nat.reduceBEq, zq6l, zq6k, YK, zq8t, zq5i, zq29, zq5a, zq14, Nat.reduceAdd, zq5c, zq1o, nth, zq1k, List.length_cons, List.length_nil, dropL, takeL, zq19, zq18, zq55, zq0t, zq09, zq08, zq0q, zq50, zq04, zq92, zq9b, zq0i, zq9e, zq9i, normF, zq6m, zq86, zq87, zq8c, zq9s, zq6h, zq8x, YC, zq9p, t38n2, T38n2, zq9t, zq58, zq06, zq0y, zq0v, zq15, zq13, zq1q, zq1n, zq1d, List.nil_append, zq1b, zq89, t38n0, T38n0, zq1c, List.cons_append, zq17, zq5d, zq7t, zq8l, zq73, zq8m, zq8k, zq0a, zq1y, zq1w, denL, den, zq1v, splice, setn, zq8s, zqa1, t38n1, T38n1, zq4w, zq8p, zq6q, zq0e, zqa2, zq8a, zq9u, popTo, zq6i, YP, zq9j])
  refine ⟨fun hlt => ?_, fun hge => ?_⟩
  ·have hlt : i < D.es.length := by have := of_decide_eq_true hlt; omega
   have hat := mapTo_at disE D.es hlt
   have hsu := mapTo_succ disE D.es hlt
   have hle := mapTo_len disE D.es i
   have hgo : ∀ l, mapTo disE D.es (i + 1) = l → ∀ (a : Act) (W : World), Rep ⟨b0, N, st, 37, []⟩ { F := [(0, .ptr 0 0), (2, .val (.int .i64 ((i + 1 : Nat) : Int)))], H := [.cells gw 47 [.val (.int .i64 D.sets), .val (.int .i64 D.ways), .own 1 0, .val (.int .i64 D.uses)], .own 44 0 21 A D.es.length cc (esV l)] } a W → I a W := fun l h a W rep => by subst h; exact again (i + 1) hlt (by omega) a W rep
   have hadd : ArOk .add .i64 (i : Int) 1 ((i + 1 : Nat) : Int) := ArOk.to (by omega) (by omega) (by omega)
   generalize mapTo disE D.es i = m at hat hsu hle ⊢
   have hm : i < m.length := by omega
   have hat := hat hm
   generalize D.es[i] = e at hat hsu
   rw [Int.toNat_natCast]
   refine ⟨⟨by omega, by omega⟩, e.wr, esV_atm 3 hm rfl (by rw [hat]; rfl), fun h => ?_, fun h => ⟨_, hadd, lend_rule fun a W rep => hgo m ?_ a W (rep.le (by (simp only [setn, List.nil_append, List.cons_append, leF, leH_nil, leH_cons, leF_nil, lk, scp, scpL, scpO, resF, resH, resO, resV, resVL, nth, Nat.reduceBEq, Nat.reduceLT, decide_true, decide_false, List.length, List.length_cons, List.length_nil, Nat.reduceAdd, Bool.and_self, Bool.and_true, and_true, true_and, numF] <;> try simp)) (by (simp only [setn, List.nil_append, List.cons_append, leF, leH_nil, leH_cons, leF_nil, lk, scp, scpL, scpO, resF, resH, resO, resV, resVL, nth, Nat.reduceBEq, Nat.reduceLT, decide_true, decide_false, List.length, List.length_cons, List.length_nil, Nat.reduceAdd, Bool.and_self, Bool.and_true, and_true, true_and, numF] <;> try simp)))⟩⟩
   ·have e3 := esV_splice (l := m) (i := i) (k := 4) (us := [.int .u64 (e.o 0), .int .u64 (e.o 1), .int .u64 (e.o 2), .int .u64 (e.o 3), .int .u64 (e.o 4), .int .u64 (e.o 5), .int .u64 (e.o 6), .int .u64 (e.o 7)]) (e := { e with d := e.o }) hm (by simp) (by rw [hat]; rfl)
    simp only [splice] at e3
    refine ⟨⟨by omega, by omega⟩, _, esV_atm 12 hm (by omega) (by rw [hat]; rfl), _, esV_atm 13 hm (by omega) (by rw [hat]; rfl), _, esV_atm 14 hm (by omega) (by rw [hat]; rfl), _, esV_atm 15 hm (by omega) (by rw [hat]; rfl), _, esV_atm 16 hm (by omega) (by rw [hat]; rfl), _, esV_atm 17 hm (by omega) (by rw [hat]; rfl), _, esV_atm 18 hm (by omega) (by rw [hat]; rfl), _, esV_atm 19 hm (by omega) (by rw [hat]; rfl), ⟨by omega, by omega⟩, by rw [esV_len]; omega, ?_⟩
    rw [e3]
    have hd : disE e = { e with d := e.o } := by unfold disE; rw [if_pos h]
    rw [hd] at hsu
    exact ⟨_, hadd, lend_rule fun a W rep => hgo _ hsu.symm a W (rep.le (by (simp only [setn, List.nil_append, List.cons_append, leF, leH_nil, leH_cons, leF_nil, lk, scp, scpL, scpO, resF, resH, resO, resV, resVL, nth, Nat.reduceBEq, Nat.reduceLT, decide_true, decide_false, List.length, List.length_cons, List.length_nil, Nat.reduceAdd, Bool.and_self, Bool.and_true, and_true, true_and, numF] <;> try simp)) (by (simp only [setn, List.nil_append, List.cons_append, leF, leH_nil, leH_cons, leF_nil, lk, scp, scpL, scpO, resF, resH, resO, resV, resVL, nth, Nat.reduceBEq, Nat.reduceLT, decide_true, decide_false, List.length, List.length_cons, List.length_nil, Nat.reduceAdd, Bool.and_self, Bool.and_true, and_true, true_and, numF] <;> try simp)))⟩
   ·rw [← hsu]
    unfold disE
    rw [if_neg (by rw [h]; simp), ← hat]
    exact List.set_getElem_self hm
  ·have hie : i = D.es.length := by have := of_decide_eq_false hge; omega
   subst hie
   have e0 : (dcS 0 gw 0 A cc { D with es := D.es.map disE }) = [.cells gw 47 [.val (.int .i64 D.sets), .val (.int .i64 D.ways), .own 1 0, .val (.int .i64 D.uses)], .own 44 0 21 A D.es.length cc (esV (mapTo disE D.es D.es.length))] := by
    simp only [dcS, List.length_map]; rw [mapTo_all]
   rw [← e0]
   refine call_dc [] [] gw 0 1 A cc { D with es := D.es.map disE } (disD D) (.tuple #[]) (.tup []) rfl rfl (by decide) (fun W hW hh => commit37 gw A cc { D with es := D.es.map disE } (by simp only [List.length_map]; exact hl) hh) (fun H => by simp [Is, IsL]) fun A' cc' => ?_
   dsimp only [zq8t, List.length_nil, dcS, Nat.reduceAdd, List.cons_append, List.nil_append]
   (refine Y_go 600 ?_; dsimp only [zq9i, normF, zq6n, Nat.reduceBEq, zq6l, zq6k, zq6m, zq86, zq8a, zq87, zq8c, zqa3])
   exact ret_rule (keep := K38) (tab := T38) (vs := []) r38 rfl rfl fun W hW => fin _ (disD D) W [] 1 A' cc' rfl rfl hW
end Go.Proofs.Ytimmobbginjkfaa
