/- The document's Goes: where an instruction goes. -/
import Derived.Test.YtgghmmjoplddbaaDoorFlSteps
import Derived.Test.YtgghmmjoplddbaaDoorRpPlain
import Derived.Test.YtgghmmjoplddbaaDoorDRpCode
import Derived.Test.YtgghmmjoplddbaaDoorSxGhost
set_option linter.unusedSimpArgs false
set_option linter.unusedVariables false
set_option linter.unnecessarySimpa false
namespace Go.Proofs.YtgghmmjoplddbaaDoor
open Go Go.Sx Go.Isa
set_option maxRecDepth 100000
def GoR (l : List In) (i : Nat) (x : In) (w : World) (v : Value) (w' : World) : Prop := ∃ (A : Option Addr) (c : Nat), v = .tuple #[.slice A (goesL l.length i x).length c, .bool (endsB x)] ∧ World.ownsB w' w.heap.size 3 1 (.slice A (goesL l.length i x).length c) (goesL l.length i x).length (isV (goesL l.length i x)) ∧ Fresh w w'
theorem goes118 (l : List In) (i : Nat) (x : In) (B : Option Addr) (bc : Nat) (w : World) (hx : l[i]? = some x) (hl : l.length ≤ 1024) (hB : RowAt w B (cellsI l)) :
  CallsV Tryd.prog 20 [.slice B l.length bc, .int .i64 (i : Int)] w (GoR l i x w) := by
 refine calls_go (keep := K20) (nt := 66) (svs := [.val (.slice B l.length bc), .val (.int .i64 (i : Int))]) Tryd.func20 x20 n20 (by simp) (by simp [IsL, Is]) fun R hR => ?_
 have hlt : i < l.length := some_lt9 hx
 have hi1 : ((i : Nat) : Int).toNat = i := by omega
 have hxl : l[i] = x := (List.getElem?_eq_some_iff.1 hx).2
 have cl : ∀ k v, k < 5 → x.cells[k]? = some v → CellAt ⟨w, w.heap.size, [], 66, []⟩ B (i * 5 + k) v := fun k v hk hv => hB.cell (by rw [cellsI_get l hlt hk, hxl]; exact hv)
 have sB : B.isSome = true := hB.isSome (j := i * 5) (by rw [cellsI_len]; omega)
 (refine Y_go 600 ?_; dsimp only [X20, numF, Nat.reduceAdd, zq9r, zq9q, Y_k, zq4u, zq8p, zq6u, YK, zq8t, zq6p, zq9i, normF, zq6n, Nat.reduceBEq, zq6l, zq6k, zq6m, zq86, zq8a, zq87, zq9y, t20n10, T20n10, zq8o, zq58, zq06, zq0w, zq5c, zq1p, zq1c, List.nil_append, List.cons_append, zq1b, zq17, zq5e, List.length_nil, List.map, zq6q, zq5d, zq7t, List.length_cons, zq8l, zq73, zq8m, zq8k, zq0a, zq1x, nth, zq1t, dropL, takeL, zq1r, splice, setn, zq8s, zq8c, t20n9, T20n9, zq1o, zq1k, zq19, zq9j])
 rw [hi1]
 refine ⟨⟨by omega, by omega, sB⟩, _, cl 0 _ (by omega) rfl, _, cl 1 _ (by omega) rfl, _, cl 2 _ (by omega) rfl, _, cl 3 _ (by omega) rfl, _, cl 4 _ (by omega) rfl, fun g => ?_⟩
 have hends : ∀ b, endsB x = b → b = (!legalB x || (x.op == 1 || brB x.op)) := fun b h => by rw [← h]; rfl
 have fin : ∀ (F : List (Nat × SV)) (H : List SO) (k ver : Nat) (A : Option Addr) (c : Nat) (zs : List Int) (b : Bool), nth H k = some (.own 3 ver 1 A zs.length c (isV zs)) → zs = goesL l.length i x → b = endsB x → denAll H F [4, 5] = some [.slice A zs.length c, .bool b] → RetG (cxOf Tryd.prog Tryd.f20 K20 T20 R) ⟨w, w.heap.size, [], 66, []⟩ { F := F, H := H } := by
  intro F H k ver A c zs b hk hz hb hd
  subst hz; subst hb
  exact ret_rule (vs := [.slice A (goesL l.length i x).length c, .bool (endsB x)]) r20 rfl hd fun W hW => hR _ _ ⟨A, c, rfl, hW.owns (i := k) hk, hW.fresh'⟩
 have fin0 : ∀ (F : List (Nat × SV)) (H : List SO) (b : Bool), [] = goesL l.length i x → b = endsB x → denAll H F [4, 5] = some [.slice none 0 0, .bool b] → RetG (cxOf Tryd.prog Tryd.f20 K20 T20 R) ⟨w, w.heap.size, [], 66, []⟩ { F := F, H := H } := by
  intro F H b hz hb hd
  subst hb
  refine ret_rule (vs := [.slice none 0 0, .bool (endsB x)]) r20 rfl hd fun W hW => hR _ _ ⟨none, 0, ?_, ?_, hW.fresh'⟩
  ·rw [← hz]; rfl
  ·rw [← hz]; exact ownsB_nil _ _ _ _
 cases hb : legalB x with
 | false =>
  refine call_val (vs := [In.val x]) rfl (fun W hW => legal90 x W) fun v hv => ⟨.bf, by rw [hv, hb]; simp [Is], ?_⟩
  (refine Y_go 600 ?_; dsimp only [zq8t, Y_k, zq4u, zq8o, zq6n, Nat.reduceBEq, zq6k, YK, zq9i, normF, zq6l, zq6m, zq86, zq8a, zq8c, zq87, zq9y, t20n8, T20n8, zq9r, zq9q, zq5a, zq14, Nat.add_zero, zq5c, zq1o, nth, zq1k, List.length_cons, List.length_nil, Nat.reduceAdd, dropL, takeL, zq19, zq18, zq50, zq8p, zq6q, zq04, zq92, zq9b, zq0i, zq9h, Y_gk, zq6d, YR, zq69, zq9f, zq4v, zq6p, zq0b, t20n7, T20n7, zq6u, t20n6, T20n6, zq53, zq0n, zq6a, YS, zq6o, zq89, zq9s, zq6f, YC, t20n0, T20n0, zq9x, zq6b, zq0c])
  have e1 : [] = goesL l.length i x := by unfold goesL; rw [hb]; rfl
  have e2 : true = endsB x := by unfold endsB; rw [hb]; rfl
  exact ⟨fun _ => fin0 _ _ _ e1 e2 rfl, fun _ => fin0 _ _ _ e1 e2 rfl⟩
 | true =>
  refine call_val (vs := [In.val x]) rfl (fun W hW => legal90 x W) fun v hv => ⟨.bt, by rw [hv, hb]; simp [Is], ?_⟩
  have hgo : goesL l.length i x = if x.op == 1 then [] else (if brB x.op && (decide (0 ≤ x.imm) && decide (x.imm < l.length)) then [x.imm] else []) ++ (if !(x.op == 13) && decide (i + 1 < l.length) then [((i : Int) + 1)] else []) := by
   unfold goesL; rw [hb]; cases x.op == 1 <;> rfl
  have hen : endsB x = (x.op == 1 || brB x.op) := by unfold endsB; rw [hb]; rfl
  have raw : ∀ b, b = brB x.op → G (cxOf Tryd.prog Tryd.f20 K20 T20 R) ⟨w, w.heap.size, [], 66, []⟩ [.code (.ref 7)] { F := [(0, .val (.slice B l.length bc)), (1, .val (.int .i64 (i : Int))), (4, .val (.slice none 0 0)), (5, .bf), (6, .ptr 0 0), (7, .bt), (8, bsv b)], H := [.cells g 37 (In.sv x)] } := by
   intro b hbr
   rw [← hbr] at hgo hen
   cases b with
   | false =>
    simp only [bsv]
    (refine Y_go 600 ?_; dsimp only [In.sv, zq9y, t20n7, T20n7, zq9r, zq9q, Y_k, zq4u, zq8p, zq6u, YK, zq8t, zq9i, normF, zq6n, Nat.reduceBEq, zq6l, zq6k, zq6m, zq86, zq87, zq8a, zq89, zq8c, t20n6, T20n6, zq8o, zq53, zq0m, Y_gk, zq6c, YR, zq5a, zq14, Nat.add_zero, zq5c, zq1o, nth, zq1k, List.length_cons, List.length_nil, Nat.reduceAdd, dropL, takeL, zq19, zq18, zq50, zq6q, zq04, zq92, zq9b, zq0i, zq9c, zq4v, zq6o, zq0c, zq9s, zq6h, zq8x, YC, t20n0, T20n0, zq9x, zq9p, t20n5, T20n5, zq6b, YS, zq6p, zq6g, t20n4, T20n4, zq9d, zq6d, zq69, zq4w, zq0e, zq55, zq0r, zq9e, zq0b, t20n2, T20n2, zq5h, List.map, repL, List.cons_append, List.nil_append, zq23, Nat.reduceMul, zq7u, zq73, zq0a, zq20, splice, setn, zq24, zq26, zq5l, zq2v, zq2r, zq2n, zq2j, zq2k, zq8l, zq8m, zq8k, denL, den, zq2l, zq2g, zq8f, t20n3, T20n3])
    refine ⟨fun h1 => fin0 _ _ _ (by rw [hgo, h1]; rfl) (by rw [hen, h1]; rfl) rfl, fun h1 => ?_⟩
    have hen : false = endsB x := by rw [hen, h1]; rfl
    have hgo : goesL l.length i x = (if !(x.op == 13) && decide (i + 1 < l.length) then [((i : Int) + 1)] else []) := by rw [hgo, h1]; rfl
    refine ⟨fun h13 => ⟨((i + 1 : Nat) : Int), ArOk.to (by omega) (by omega) (by omega), fun hlt2 => ⟨((i + 1 : Nat) : Int), ArOk.to (by omega) (by omega) (by omega), fun g1 => ⟨⟨by decide, by decide⟩, fun A c => ?_⟩⟩, fun hge2 => ?_⟩, fun h13 => ?_⟩
    ·have h13 : (!(x.op == 13)) = true := h13
     have hlt2 : i + 1 < l.length := by have := of_decide_eq_true hlt2; omega
     exact fin _ _ 2 0 A c [((i + 1 : Nat) : Int)] _ rfl (by rw [hgo, h13, decide_eq_true hlt2]; rfl) hen rfl
    ·have hge2 : ¬ i + 1 < l.length := by have := of_decide_eq_false hge2; omega
     exact fin0 _ _ _ (by rw [hgo, decide_eq_false hge2]; simp) hen rfl
    ·have h13 : (!(x.op == 13)) = false := h13
     exact fin0 _ _ _ (by rw [hgo, h13]; simp) hen rfl
   | true =>
    simp only [bsv]
    (refine Y_go 600 ?_; dsimp only [In.sv, zq9y, t20n7, T20n7, zq9r, zq9q, Y_k, zq4u, zq8p, zq6u, YK, zq8t, zq9i, normF, zq6n, Nat.reduceBEq, zq6l, zq6k, zq6m, zq86, zq87, zq89, zq8c, zq8a, t20n6, T20n6, zq8o, zq53, zq0m, Y_gk, zq6c, YR, zq5a, zq14, Nat.add_zero, zq5c, zq1o, nth, zq1k, List.length_cons, List.length_nil, Nat.reduceAdd, dropL, takeL, zq19, zq18, zq50, zq6q, zq04, zq92, zq9b, zq0i, zq9c, zq4v, zq6o, zq0c, zq9s, zq6h, zq8x, YC, t20n0, T20n0, zq9x, zq9p, t20n5, T20n5, zq69, zq9h, zq6p, zq0b, zq6d, zq55, zq0r, zq9e, t20n1, T20n1, zq5h, List.map, repL, List.cons_append, List.nil_append, zq23, Nat.reduceMul, zq7u, zq73, zq0a, zq20, splice, setn, zq24, zq26, zq5l, zq2v, zq2r, zq2n, zq2j, zq2k, zq8l, zq8m, zq8k, denL, den, zq2l, zq2g, zq8f, t20n4, T20n4, zq9d, zq4w, zq0e, t20n2, T20n2, zq2w, zq09, zq08, zq2s, zq2h, t20n3, T20n3, YS, zq6b, zq6g])
    refine ⟨fun h1 => fin0 _ _ _ (by rw [hgo, h1]; rfl) (by rw [hen, h1]; rfl) rfl, fun h1 => ?_⟩
    have hen : true = endsB x := by rw [hen, h1]; rfl
    have hgo : goesL l.length i x = (if decide (0 ≤ x.imm) && decide (x.imm < l.length) then [x.imm] else []) ++ (if !(x.op == 13) && decide (i + 1 < l.length) then [((i : Int) + 1)] else []) := by rw [hgo, h1]; simp
    refine ⟨fun h0 => ⟨fun h2 => fun g1 => ⟨⟨by decide, by decide⟩, fun A1 c1 => ?_⟩, fun h2 => ?_⟩, fun h0 => ?_⟩
    ·have h0 : decide (0 ≤ x.imm) = true := h0
     have hgo : goesL l.length i x = x.imm :: (if !(x.op == 13) && decide (i + 1 < l.length) then [((i : Int) + 1)] else []) := by rw [hgo, h0, h2]; rfl
     refine ⟨fun h13 => ⟨((i + 1 : Nat) : Int), ArOk.to (by omega) (by omega) (by omega), fun hlt2 => ⟨((i + 1 : Nat) : Int), ArOk.to (by omega) (by omega) (by omega), fun g2 => ⟨⟨by decide, by decide⟩, fun A c => ?_⟩⟩, fun hge2 => ?_⟩, fun h13 => ?_⟩
     ·have h13 : (!(x.op == 13)) = true := h13
      have hlt2 : i + 1 < l.length := by have := of_decide_eq_true hlt2; omega
      exact fin _ _ 2 1 A c [x.imm, ((i + 1 : Nat) : Int)] _ rfl (by rw [hgo, h13, decide_eq_true hlt2]; rfl) hen rfl
     ·have hge2 : ¬ i + 1 < l.length := by have := of_decide_eq_false hge2; omega
      exact fin _ _ 2 0 A1 c1 [x.imm] _ rfl (by rw [hgo, decide_eq_false hge2]; simp) hen rfl
     ·have h13 : (!(x.op == 13)) = false := h13
      exact fin _ _ 2 0 A1 c1 [x.imm] _ rfl (by rw [hgo, h13]; simp) hen rfl
    ·have hgo : goesL l.length i x = (if !(x.op == 13) && decide (i + 1 < l.length) then [((i : Int) + 1)] else []) := by rw [hgo, h2]; simp
     refine ⟨fun h13 => ⟨((i + 1 : Nat) : Int), ArOk.to (by omega) (by omega) (by omega), fun hlt2 => ⟨((i + 1 : Nat) : Int), ArOk.to (by omega) (by omega) (by omega), fun g1 => ⟨⟨by decide, by decide⟩, fun A c => ?_⟩⟩, fun hge2 => ?_⟩, fun h13 => ?_⟩
     ·have h13 : (!(x.op == 13)) = true := h13
      have hlt2 : i + 1 < l.length := by have := of_decide_eq_true hlt2; omega
      exact fin _ _ 2 0 A c [((i + 1 : Nat) : Int)] _ rfl (by rw [hgo, h13, decide_eq_true hlt2]; rfl) hen rfl
     ·have hge2 : ¬ i + 1 < l.length := by have := of_decide_eq_false hge2; omega
      exact fin0 _ _ _ (by rw [hgo, decide_eq_false hge2]; simp) hen rfl
     ·have h13 : (!(x.op == 13)) = false := h13
      exact fin0 _ _ _ (by rw [hgo, h13]; simp) hen rfl
    ·have h0 : decide (0 ≤ x.imm) = false := h0
     have hgo : goesL l.length i x = (if !(x.op == 13) && decide (i + 1 < l.length) then [((i : Int) + 1)] else []) := by rw [hgo, h0]; simp
     refine ⟨fun h13 => ⟨((i + 1 : Nat) : Int), ArOk.to (by omega) (by omega) (by omega), fun hlt2 => ⟨((i + 1 : Nat) : Int), ArOk.to (by omega) (by omega) (by omega), fun g1 => ⟨⟨by decide, by decide⟩, fun A c => ?_⟩⟩, fun hge2 => ?_⟩, fun h13 => ?_⟩
     ·have h13 : (!(x.op == 13)) = true := h13
      have hlt2 : i + 1 < l.length := by have := of_decide_eq_true hlt2; omega
      exact fin _ _ 2 0 A c [((i + 1 : Nat) : Int)] _ rfl (by rw [hgo, h13, decide_eq_true hlt2]; rfl) hen rfl
     ·have hge2 : ¬ i + 1 < l.length := by have := of_decide_eq_false hge2; omega
      exact fin0 _ _ _ (by rw [hgo, decide_eq_false hge2]; simp) hen rfl
     ·have h13 : (!(x.op == 13)) = false := h13
      exact fin0 _ _ _ (by rw [hgo, h13]; simp) hen rfl
  (refine Y_go 15 ?_; dsimp only [zq8t, Y_k, zq4u, zq8o, zq6n, Nat.reduceBEq, zq6k, YK, zq9i, normF, zq6l, zq6m, zq86, zq89, zq8c, zq8a, zq87, zq9y, t20n8, T20n8, zq9r, zq9q, zq5a, zq14, Nat.add_zero, zq5c, zq1o, nth, zq1k, List.length_cons, List.length_nil, Nat.reduceAdd, dropL, takeL, zq19, zq18, zq50, zq8p, zq6q, zq04, zq92, zq9b, zq0i, zq9h, Y_gk, zq6d, YR, zq69, zq9f, zq4v, zq6p, zq0b, Y_0, YS, zq6b, zq0c])
  refine ⟨fun h13 => fun a W rep => ?_, fun h13 => fun a W rep => ?_⟩
  ·have rep1 := rep_bool 8 rep rfl
   have e : decide (x.op ≤ 16) = brB x.op := by unfold brB; rw [show decide (13 ≤ x.op) = true from h13]; rfl
   rw [e] at rep1
   generalize hbb : brB x.op = b at rep1 raw
   cases b <;> exact raw _ rfl a W (rep1.le (by simp only [bsv]; (simp only [setn, List.nil_append, List.cons_append, leF, leH_nil, leH_cons, leF_nil, lk, scp, scpL, scpO, resF, resH, resO, resV, resVL, nth, Nat.reduceBEq, Nat.reduceLT, decide_true, decide_false, List.length, List.length_cons, List.length_nil, Nat.reduceAdd, Bool.and_self, Bool.and_true, and_true, true_and, numF] <;> try simp)) (by (simp only [setn, List.nil_append, List.cons_append, leF, leH_nil, leH_cons, leF_nil, lk, scp, scpL, scpO, resF, resH, resO, resV, resVL, nth, Nat.reduceBEq, Nat.reduceLT, decide_true, decide_false, List.length, List.length_cons, List.length_nil, Nat.reduceAdd, Bool.and_self, Bool.and_true, and_true, true_and, numF] <;> try simp); exact ⟨rfl, rfl⟩))
  ·have e : false = brB x.op := by unfold brB; rw [show decide (13 ≤ x.op) = false from h13]; rfl
   exact raw false e a W (rep.le (by simp only [bsv]; (simp only [setn, List.nil_append, List.cons_append, leF, leH_nil, leH_cons, leF_nil, lk, scp, scpL, scpO, resF, resH, resO, resV, resVL, nth, Nat.reduceBEq, Nat.reduceLT, decide_true, decide_false, List.length, List.length_cons, List.length_nil, Nat.reduceAdd, Bool.and_self, Bool.and_true, and_true, true_and, numF] <;> try simp)) (by (simp only [setn, List.nil_append, List.cons_append, leF, leH_nil, leH_cons, leF_nil, lk, scp, scpL, scpO, resF, resH, resO, resV, resVL, nth, Nat.reduceBEq, Nat.reduceLT, decide_true, decide_false, List.length, List.length_cons, List.length_nil, Nat.reduceAdd, Bool.and_self, Bool.and_true, and_true, true_and, numF] <;> try simp); exact ⟨rfl, rfl⟩))
end Go.Proofs.YtgghmmjoplddbaaDoor
namespace Go.Proofs.YtgghmmjoplddbaaDoor
open Go Go.Sx Go.Isa
set_option maxRecDepth 100000
theorem setL_get {α : Type} (l : List α) (k : Nat) (v : α) (j : Nat) : (setn l k v)[j]? = if k = j ∧ k < l.length then some v else l[j]? := by
 rw [setn_eq, List.getElem?_set]
 by_cases h : k = j
 ·subst h
  by_cases h2 : k < l.length
  ·simp [h2]
  ·simp [h2]
 ·simp [h]
theorem cellsR_set {L : List PR} {k r : Nat} {p p' : PR} {v : Value} (hk : L[k]? = some p) (hr : r < 3) (hc : ∀ j, j < 3 → p'.cells[j]? = if r = j then some v else p.cells[j]?) : setn (cellsR L) (k * 3 + r) v = cellsR (L.set k p') := by
 have hkl : k < L.length := (List.getElem?_eq_some_iff.1 hk).1
 apply List.ext_getElem?
 intro j
 rw [setL_get]
 rcases Nat.lt_or_ge j (L.length * 3) with hj | hj
 ·obtain ⟨q, s, hs, rfl⟩ : ∃ q s, s < 3 ∧ j = q * 3 + s := ⟨j / 3, j % 3, Nat.mod_lt _ (by omega), by omega⟩
  have hq : q < L.length := by omega
  have hqe : L[q]? = some L[q] := List.getElem?_eq_getElem hq
  by_cases e : k = q
  ·subst e
   rw [hk] at hqe; injection hqe with hqe
   have h2 : (L.set k p')[k]? = some p' := by rw [List.getElem?_set]; simp [hkl]
   rw [cellsR_get h2 hs, hc s hs, cellsR_get hk hs]
   by_cases e2 : r = s
   ·subst e2; rw [if_pos rfl, if_pos ⟨rfl, by rw [cellsR_len]; omega⟩]
   ·rw [if_neg e2, if_neg (by omega)]
  ·have h2 : (L.set k p')[q]? = some L[q] := by rw [List.getElem?_set, if_neg e]; exact hqe
   rw [cellsR_get h2 hs, cellsR_get hqe hs, if_neg (by omega)]
 ·rw [if_neg (by omega), List.getElem?_eq_none (by rw [cellsR_len]; exact hj), List.getElem?_eq_none (by rw [cellsR_len, List.length_set]; exact hj)]
theorem repI_zero : ∀ n, repN n [Value.int .i64 0] = isV (List.replicate n 0)
 | 0 => rfl
 | n + 1 => by
  show Value.int .i64 0 :: repN n [Value.int .i64 0] = _
  rw [repI_zero n]; rfl
theorem isV_set (o : List Int) (i : Nat) (b : Int) : setn (isV o) i (.int .i64 b) = isV (o.set i b) := by
 rw [setn_eq]; unfold isV; rw [List.map_set]
def pr0 (b : Int) : PR := ⟨⟨b, 0, []⟩, none, 0⟩
theorem toL_succ (n : Nat) (bs : List Int) (k : Nat) : toL n bs k = ((bs[k + 1]?).getD (n : Int)) := rfl
structure LOk (l : List In) (n : Nat) (E : Env) (k : Nat) (L : List PR) : Prop where
 len : L.length = (bgL l).length
 done : ∀ j, j < k → ∃ p, L[j]? = some p ∧ p.pa = partL l (bgL l) j
 rest : ∀ j b, k ≤ j → (bgL l)[j]? = some b → L[j]? = some (pr0 b)
 nx : NxE E L
 new : NxNew n L
theorem LOk.start (l : List In) (n : Nat) (E : Env) : LOk l n E 0 ((bgL l).map pr0) where
 len := by simp
 done j h := by omega
 rest j b _ h := by rw [List.getElem?_map, h]; rfl
 nx p hp := by
  obtain ⟨b, _, rfl⟩ := List.mem_map.1 hp
  intro j u h; simp [pr0, isV] at h
 new p hp := by
  obtain ⟨b, _, rfl⟩ := List.mem_map.1 hp
  intro a h; cases h
theorem LOk.step {l : List In} {n : Nat} {E E' : Env} {k : Nat} {L : List PR} {p : PR} (h : LOk l n E k L) (o : Over E E') (hk : k < (bgL l).length) (hp : p.pa = partL l (bgL l) k) (hr : RowE E' p.A (isV p.pa.nx)) (hn : ∀ a, p.A = some a → n ≤ a.block) : LOk l n E' (k + 1) (L.set k p) where
 len := by rw [List.length_set]; exact h.len
 done j hj := by
  by_cases e : k = j
  ·subst e
   exact ⟨p, by rw [List.getElem?_set]; simp [h.len, hk], hp⟩
  ·obtain ⟨q, h1, h2⟩ := h.done j (by omega)
   exact ⟨q, by rw [List.getElem?_set, if_neg e]; exact h1, h2⟩
 rest j b hj hb := by rw [List.getElem?_set, if_neg (by omega)]; exact h.rest j b (by omega) hb
 nx q hq := by
  rcases List.mem_or_eq_of_mem_set hq with e | e
  ·exact (h.nx.over o) q e
  ·subst e; exact hr
 new q hq := by
  rcases List.mem_or_eq_of_mem_set hq with e | e
  ·exact h.new q e
  ·subst e; exact hn
theorem LOk.fin {l : List In} {n : Nat} {E : Env} {L : List PR} (h : LOk l n E (bgL l).length L) : L.map PR.pa = partsL l := by
 apply List.ext_getElem?
 intro j
 rw [List.getElem?_map]
 rcases Nat.lt_or_ge j (bgL l).length with hj | hj
 ·obtain ⟨p, h1, h2⟩ := h.done j hj
  rw [h1, partsL_get hj, ← h2]; rfl
 ·rw [List.getElem?_eq_none (by rw [h.len]; exact hj), List.getElem?_eq_none (by rw [partsL_len]; exact hj)]; rfl
theorem ph3 {l : List In} {B : Option Addr} {bc : Nat} {w : World} {R : Value → World → Prop} (hl : l.length ≤ 1024) (hB : RowAt w B (cellsI l)) (hR : ∀ v W, PartsR l w v W → R v W) (g1 : Nat) (oA : Option Addr) (oC : Nat) :
  G (cxOf Tryd.prog Tryd.f7 K7 T7 R) ⟨w, w.heap.size, [], 153, []⟩ [.code (XC.ref 29).loop, .blk 6, .code (.ref 30)] { F := [(0, .val (.slice B l.length bc)), (8, .own 0 0), (9, .own 1 0), (11, .val (.int .i64 0))], H := [.own 3 0 1 (some ⟨g1, 0, none⟩) (l.length + 1) (l.length + 1) (isV (nuT l l.length)), .own 32 0 3 oA (bgL l).length oC (cellsR ((bgL l).map pr0))] } := by
 have hbn := bgL_len l
 refine loop_go (α := List PR × Nat × World × Nat × List Nat) (fun q => q.2.1 ≤ (bgL l).length ∧ Over ⟨w, w.heap.size, [], 153, []⟩ ⟨q.2.2.1, q.2.2.2.1, q.2.2.2.2, 153, []⟩ ∧ LOk l w.heap.size ⟨q.2.2.1, q.2.2.2.1, q.2.2.2.2, 153, []⟩ q.2.1 q.1) (fun q => ⟨q.2.2.1, q.2.2.2.1, q.2.2.2.2, 153, []⟩)
  (fun q => { F := [(0, .val (.slice B l.length bc)), (8, .own 0 0), (9, .own 1 0), (11, .val (.int .i64 (q.2.1 : Int)))], H := [.own 3 0 1 (some ⟨g1, 0, none⟩) (l.length + 1) (l.length + 1) (isV (nuT l l.length)), .own 32 0 3 oA (bgL l).length oC (cellsR q.1)] }) (fun q => (bgL l).length - q.2.1) (fun _ => rfl) ?start ?round
 case start =>
  intro a W rep
  exact ⟨((bgL l).map pr0, 0, w, w.heap.size, []), ⟨Nat.zero_le _, Over.refl _, LOk.start l _ _⟩, rep.le (by (simp only [setn, List.nil_append, List.cons_append, leF, leH_nil, leH_cons, leF_nil, lk, scp, scpL, scpO, resF, resH, resO, resV, resVL, nth, Nat.reduceBEq, Nat.reduceLT, decide_true, decide_false, List.length, List.length_cons, List.length_nil, Nat.reduceAdd, Bool.and_self, Bool.and_true, and_true, true_and, numF] <;> try simp)) (by (simp only [setn, List.nil_append, List.cons_append, leF, leH_nil, leH_cons, leF_nil, lk, scp, scpL, scpO, resF, resH, resO, resV, resVL, nth, Nat.reduceBEq, Nat.reduceLT, decide_true, decide_false, List.length, List.length_cons, List.length_nil, Nat.reduceAdd, Bool.and_self, Bool.and_true, and_true, true_and, numF] <;> try simp))⟩
 case round =>
  rintro ⟨L, k, b, N, st⟩ ⟨hk, hov, hL⟩ I again
  simp only at hk hov hL ⊢
  have hLl := hL.len
  have hBE : RowE ⟨b, N, st, 153, []⟩ B (cellsI l) := (hB.toE (by simp) 153 []).over hov
  (refine Y_go 600 ?_; dsimp only [zq9y, t7n29, T7n29, zq9r, zq9q, Y_k, zq4u, zq8o, zq6n, Nat.reduceBEq, zq6l, zq6k, YK, zq8t, zq55, zq0t, nth, zq09, zq08, zq0q, zq50, zq04, zq92, zq9b, zq0i, zq9e, zq9i, normF, zq6m, zq86, zq87, zq8f, zq9s, zq6h, zq8x, YC, zq9p, t7n28, T7n28, zq9t, zq0r, zq58, zq06, zq0y, zq0v, zq5a, zq15, zq13, zq5d, zq7u, zq73, zq0a, zq1y, zq1w, denL, den, zq1v, splice, setn, zq8s, zq89, t7n26, T7n26, zq4w, zq8p, zq6q, zq0e, t7n14, T7n14, Nat.add_zero, zq5c, zq1q, zq1n, zq1c, List.nil_append, zq1b, zq18, t7n25, T7n25, zq9j, zq9u, popTo, zq6i, YP, t7n30, T7n30, zq8a, zq9x])
  refine ⟨fun hlt => ?_, fun hge => ?_⟩
  ·have hlt : k < (bgL l).length := by have := of_decide_eq_true hlt; omega
   have hk1 : ((k : Nat) : Int).toNat = k := by omega
   have hx : (bgL l)[k]? = some (bgL l)[k] := List.getElem?_eq_getElem hlt
   generalize (bgL l)[k] = fr at hx
   have hLk := hL.rest k fr (Nat.le_refl _) hx
   have bdk : (0 : Int) ≤ (k : Int) ∧ (k : Int) < ((bgL l).length : Int) := ⟨by omega, by omega⟩
   have s1 : setn (cellsR L) (k * 3 + 1) (.int .i64 (l.length : Int)) = cellsR (L.set k ⟨⟨fr, l.length, []⟩, none, 0⟩) := cellsR_set hLk (by omega) (fun j hj => by
    have : j = 0 ∨ j = 1 ∨ j = 2 := by omega
    rcases this with h | h | h <;> subst h <;> rfl)
   rw [hk1, s1]
   have pc : ∀ (to : Int) (nx : List Int) (A : Option Addr) (c : Nat), (L.set k ⟨⟨fr, to, nx⟩, A, c⟩)[k]? = some ⟨⟨fr, to, nx⟩, A, c⟩ := fun to nx A c => by rw [List.getElem?_set]; simp; omega
   have tor := toL_range hx
   have hfr := bgL_range (List.mem_of_getElem? hx)
   have raw : ∀ to : Int, to = toL l.length (bgL l) k → G (cxOf Tryd.prog Tryd.f7 K7 T7 R) ⟨b, N, st, 153, []⟩ [.ops [⟨some 112, none, .call 20 [.tmp 105, .tmp 111]⟩, ⟨some 104, none, .k (.mov (.tmp 112))⟩, ⟨some 113, none, .k (.ext (.tmp 104) 0)⟩, ⟨some 114, none, .k (.ext (.tmp 104) 1)⟩, ⟨some 12, none, .k (.mov (.tmp 113))⟩, ⟨some 13, none, .k (.mov (.tmp 114))⟩], .code (.ref 24), .blk 7, .code (.ref 27), .lend I, .blk 6, .code (.ref 30)]
     { F := [(111, .val (.int .i64 (to - 1))), (105, .val (.slice B l.length bc)), (0, .val (.slice B l.length bc)), (8, .own 0 0), (9, .own 1 0), (11, .val (.int .i64 (k : Int)))], H := [.own 3 0 1 (some ⟨g1, 0, none⟩) (l.length + 1) (l.length + 1) (isV (nuT l l.length)), .own 32 0 3 oA (bgL l).length oC (cellsR (L.set k ⟨⟨fr, to, []⟩, none, 0⟩))] } := by
    intro to hto
    rw [← hto] at tor
    obtain ⟨p, hp⟩ : ∃ p : Nat, (p : Int) = to - 1 := ⟨(to - 1).toNat, by omega⟩
    have hpl : p < l.length := by omega
    have hy : l[p]? = some l[p] := List.getElem?_eq_getElem hpl
    generalize l[p] = y at hy
    rw [← hp]
    refine call_rule (vs := [.slice B l.length bc, .int .i64 (p : Int)]) rfl (R := fun W v W' => GoR l p y W v W') (fun W hW => goes118 l p y B bc W hy hl (hBE.at hW)) fun W v W' hW ⟨A, c, hv, ho, hk⟩ => ?_
    obtain ⟨A', c', e1, e2, e5, _⟩ := hW.gain ho hk
    injection e1 with e3 _ e4
    subst e3; subst e4; subst hv
    have hgl := goesL_len l.length p y
    have hgr : ∀ t ∈ goesL l.length p y, 0 ≤ t ∧ t < l.length := fun t ht => goesL_range ht
    have hga : goesA l (to - 1).toNat = goesL l.length p y := by
     have : (to - 1).toNat = p := by omega
     unfold goesA; rw [this, hy]
    have hgb : ∀ t ∈ goesL l.length p y, t ∈ bgL l := fun t ht => goesA_in hx (by rw [← hto, hga]; exact ht)
    have hnx : nxD l (goesL l.length p y) (bgL l).length = nxL l (bgL l) to := by unfold nxL; rw [hga]; exact nxD_all hgb
    generalize hz : goesL l.length p y = zs at *
    refine ⟨.tup [.own 2 0, .val (.bool (endsB y))], _, ?_, e2, e5, ?_⟩
    ·simp only [Is, IsL]; exact ⟨_, ⟨_, _, ⟨_, _, _, _, _, _, _, rfl, Nat.le_refl _, ⟨_, _, _, rfl⟩, fun _ => rfl⟩, ⟨_, _, rfl, rfl, rfl⟩, rfl⟩, rfl⟩
    clear e5 e2 hW ho hk
    (refine Y_go 600 ?_; dsimp only [zq8t, List.cons_append, List.nil_append, Y_k, zq4u, zq8o, zq6n, Nat.reduceBEq, zq6k, YK, zq5j, zq2f, nth, zq2e, zq6l, zq9i, normF, zq6m, zq86, zq8f, zq87, zq9y, t7n24, T7n24, zq9r, zq9q, zq8p, zq6q, zq9t, zq9v])
    refine loop_go (α := Nat × Option Addr × Nat) (fun q => q.1 ≤ (bgL l).length) (fun _ => ⟨b, N, st, 153, []⟩) (fun q => { F := [(0, .val (.slice B l.length bc)), (8, .own 0 0), (9, .own 1 0), (11, .val (.int .i64 (k : Int))), (12, .own 2 0), (14, .val (.int .i64 (q.1 : Int)))], H := [.own 3 0 1 (some ⟨g1, 0, none⟩) (l.length + 1) (l.length + 1) (isV (nuT l l.length)), .own 32 0 3 oA (bgL l).length oC (cellsR (L.set k ⟨⟨fr, to, nxD l zs q.1⟩, q.2.1, q.2.2⟩)), .own 3 0 1 A zs.length c (isV zs), .own 3 0 1 q.2.1 (nxD l zs q.1).length q.2.2 (isV (nxD l zs q.1))] }) (fun q => (bgL l).length - q.1) (fun _ => rfl) ?start2 ?round2
    case start2 =>
     intro a W rep
     exact ⟨(0, none, 0), Nat.zero_le _, (rep.nilH 3 1).le (by (simp only [setn, List.nil_append, List.cons_append, leF, leH_nil, leH_cons, leF_nil, lk, scp, scpL, scpO, resF, resH, resO, resV, resVL, nth, Nat.reduceBEq, Nat.reduceLT, decide_true, decide_false, List.length, List.length_cons, List.length_nil, Nat.reduceAdd, Bool.and_self, Bool.and_true, and_true, true_and, numF] <;> try simp)) (by (simp only [setn, List.nil_append, List.cons_append, leF, leH_nil, leH_cons, leF_nil, lk, scp, scpL, scpO, resF, resH, resO, resV, resVL, nth, Nat.reduceBEq, Nat.reduceLT, decide_true, decide_false, List.length, List.length_cons, List.length_nil, Nat.reduceAdd, Bool.and_self, Bool.and_true, and_true, true_and, numF] <;> try simp); exact ⟨rfl, rfl, rfl⟩)⟩
    case round2 =>
     rintro ⟨m, nA, nC⟩ hm I2 again2
     have hm : m ≤ (bgL l).length := hm
     simp only at again2 ⊢
     have hcl := nxD_len l zs m
     have hstep : nxD l zs (m + 1) = if isN l zs m then nxD l zs m ++ [(m : Int)] else nxD l zs m := rfl
     (refine Y_go 600 ?_; dsimp only [zq9y, t7n23, T7n23, zq9r, zq9q, Y_k, zq4u, zq8o, zq6n, Nat.reduceBEq, zq6l, zq6k, YK, zq8t, zq55, zq0t, nth, zq09, zq08, zq0q, zq50, zq04, zq92, zq9b, zq0i, zq9e, zq9i, normF, zq6m, zq86, zq87, zq8f, zq9s, zq6h, zq8x, YC, zq9p, t7n22, T7n22, zq9t, zq8p, zq6p, zq89, zq8a, t7n20, T7n20, zq6q, zq9v, zq9u, popTo, zq6i, YP, zqa1, t7n27, T7n27, zq4w, zq0e, zqa2])
     refine ⟨fun hltm => ?_, fun hgem => ?_⟩
     ·have hltm : m < (bgL l).length := by have := of_decide_eq_true hltm; omega
      refine loop_go (α := Nat) (fun i => i ≤ zs.length) (fun _ => ⟨b, N, st, 153, []⟩) (fun i => { F := [(0, .val (.slice B l.length bc)), (8, .own 0 0), (9, .own 1 0), (11, .val (.int .i64 (k : Int))), (12, .own 2 0), (14, .val (.int .i64 (m : Int))), (15, bsv ((zs.take i).any fun t => nuI l t.toNat == (m : Int))), (16, .val (.int .i64 (i : Int)))], H := [.own 3 0 1 (some ⟨g1, 0, none⟩) (l.length + 1) (l.length + 1) (isV (nuT l l.length)), .own 32 0 3 oA (bgL l).length oC (cellsR (L.set k ⟨⟨fr, to, nxD l zs m⟩, nA, nC⟩)), .own 3 0 1 A zs.length c (isV zs), .own 3 0 1 nA (nxD l zs m).length nC (isV (nxD l zs m))] }) (fun i => zs.length - i) (fun _ => rfl) ?start3 ?round3
      case start3 =>
       intro a W rep
       exact ⟨0, Nat.zero_le _, rep.le (by simp only [List.take_zero, List.any_nil, bsv]; (simp only [setn, List.nil_append, List.cons_append, leF, leH_nil, leH_cons, leF_nil, lk, scp, scpL, scpO, resF, resH, resO, resV, resVL, nth, Nat.reduceBEq, Nat.reduceLT, decide_true, decide_false, List.length, List.length_cons, List.length_nil, Nat.reduceAdd, Bool.and_self, Bool.and_true, and_true, true_and, numF] <;> try simp)) (by (simp only [setn, List.nil_append, List.cons_append, leF, leH_nil, leH_cons, leF_nil, lk, scp, scpL, scpO, resF, resH, resO, resV, resVL, nth, Nat.reduceBEq, Nat.reduceLT, decide_true, decide_false, List.length, List.length_cons, List.length_nil, Nat.reduceAdd, Bool.and_self, Bool.and_true, and_true, true_and, numF] <;> try simp))⟩
      case round3 =>
       intro i hi I3 again3
       have hi : i ≤ zs.length := hi
       have hi1 : ((i : Nat) : Int).toNat = i := by omega
       have stp : ∀ z, zs[i]? = some z → ((zs.take (i + 1)).any fun t => nuI l t.toNat == (m : Int)) = (((zs.take i).any fun t => nuI l t.toNat == (m : Int)) || nuI l z.toNat == (m : Int)) := fun z hz => by
        rw [takeI_snoc hz, List.any_append]; simp
       have hall : i = zs.length → ((zs.take i).any fun t => nuI l t.toNat == (m : Int)) = isN l zs m := fun h => by rw [h, List.take_length]; rfl
       generalize hd : ((zs.take i).any fun t => nuI l t.toNat == (m : Int)) = d at stp hall
       have getz : i < zs.length → ∃ t : Nat, zs[i]? = some (t : Int) ∧ t < l.length := fun h => by
        have hz : zs[i]? = some zs[i] := List.getElem?_eq_getElem h
        have hz2 := hgr _ (List.getElem_mem h)
        refine ⟨(zs[i]).toNat, ?_, by omega⟩
        rw [hz]; congr 1; omega
       cases d with
       | true =>
        simp only [bsv]
        (refine Y_go 28 ?_; dsimp only [zq9y, t7n17, T7n17, zq9r, zq9q, Y_k, zq4u, zq8o, zq6n, Nat.reduceBEq, zq6l, zq6k, YK, zq8t, zq55, zq0t, nth, zq09, zq08, zq0q, zq50, zq04, zq92, zq9b, zq0i, zq9e, zq9i, normF, zq6m, zq86, zq87, zq89, zq8f, zq9s, zq6h, zq8x, YC, zq9p, t7n16, T7n16, zq9t, Y_gk, zq6a, YS, zq4v, zq8p, zq6o, zq0b, Y_0, zq9u, popTo, zq6i, YP, t7n19, T7n19, zq8a, zq6f, t7n18, T7n18, zq58, zq06, zq0y, zq0v, zq5a, zq15, zq13, zq5c, zq1q, zq1n, zq1g, List.nil_append, zq1b, zq18, zq5h, List.map, zq6q, repL, List.cons_append, zq23, Nat.reduceMul, zq7u, zq73, zq0a, dropL, takeL, zq20, splice, setn, zq24, zq26, List.length_cons, List.length_nil, Nat.reduceAdd])
        refine ⟨fun hlt3 => ?_, fun hge3 => ?_⟩
        ·have hlt3 : i < zs.length := by have := of_decide_eq_true hlt3; omega
         obtain ⟨z, hz, _⟩ := getz hlt3
         (refine Y_go 600 ?_; dsimp only [zq9i, normF, zq6n, Nat.reduceBEq, zq6l, zq6k, zq6m, zq86, zq89, zq87, zq8f, zqa1, zq9y, t7n15, T7n15, zq9q, Y_k, zq4u, zq8o, YK, zq8t, zq4w, zq8p, zq6q, zq04, zq92, zq9b, zq0e, zqa2])
         refine ⟨((i + 1 : Nat) : Int), ArOk.to (by omega) (by omega) (by omega), lend_rule fun a W rep => again3 (i + 1) (by show i + 1 ≤ _; omega) (by show _ - (i + 1) < _ - i; omega) a W (rep.le ?_ (by (simp only [setn, List.nil_append, List.cons_append, leF, leH_nil, leH_cons, leF_nil, lk, scp, scpL, scpO, resF, resH, resO, resV, resVL, nth, Nat.reduceBEq, Nat.reduceLT, decide_true, decide_false, List.length, List.length_cons, List.length_nil, Nat.reduceAdd, Bool.and_self, Bool.and_true, and_true, true_and, numF] <;> try simp)))⟩
         rw [stp _ hz, Bool.true_or]
         simp only [bsv]
         (simp only [setn, List.nil_append, List.cons_append, leF, leH_nil, leH_cons, leF_nil, lk, scp, scpL, scpO, resF, resH, resO, resV, resVL, nth, Nat.reduceBEq, Nat.reduceLT, decide_true, decide_false, List.length, List.length_cons, List.length_nil, Nat.reduceAdd, Bool.and_self, Bool.and_true, and_true, true_and, numF] <;> try simp)
        ·have hin := hall (by have := of_decide_eq_false hge3; omega)
         rw [← hin] at hstep
         rw [hk1]
         refine ⟨bdk, nA, (nxD l zs m).length, nC, by rw [cellsR_get (pc _ _ _ _) (by omega)]; rfl, fun g5 => ?_⟩
         refine G.le (E' := ⟨b, N, st, 153, []⟩) rfl (s' := { F := [(146, .own 3 0), (148, .slc 4 0 1 1), (147, .val (.int .i64 (m : Int))), (140, .own 1 0), (141, .val (.int .i64 (k : Int))), (0, .val (.slice B l.length bc)), (8, .own 0 0), (9, .own 1 0), (11, .val (.int .i64 (k : Int))), (12, .own 2 0), (14, .val (.int .i64 (m : Int)))], H := [.own 3 0 1 (some ⟨g1, 0, none⟩) (l.length + 1) (l.length + 1) (isV (nuT l l.length)), .own 32 0 3 oA (bgL l).length oC (cellsR (L.set k ⟨⟨fr, to, nxD l zs m⟩, nA, nC⟩)), .own 3 0 1 A zs.length c (isV zs), .own 3 0 1 nA (nxD l zs m).length nC (isV (nxD l zs m)), .cells g5 3 [.val (.int .i64 (m : Int))]] }) (fun a W rep => (rep.fold 146 (i := 3) rfl rfl).le (by (simp only [setn, List.nil_append, List.cons_append, leF, leH_nil, leH_cons, leF_nil, lk, scp, scpL, scpO, resF, resH, resO, resV, resVL, nth, Nat.reduceBEq, Nat.reduceLT, decide_true, decide_false, List.length, List.length_cons, List.length_nil, Nat.reduceAdd, Bool.and_self, Bool.and_true, and_true, true_and, numF] <;> try simp)) (by (simp only [setn, List.nil_append, List.cons_append, leF, leH_nil, leH_cons, leF_nil, lk, scp, scpL, scpO, resF, resH, resO, resV, resVL, nth, Nat.reduceBEq, Nat.reduceLT, decide_true, decide_false, List.length, List.length_cons, List.length_nil, Nat.reduceAdd, Bool.and_self, Bool.and_true, and_true, true_and, numF] <;> try simp))) ?_
         (refine Y_go 600 ?_; dsimp only [Y_k, zq5l, zq8o, zq6n, Nat.reduceBEq, zq6l, zq6k, zq2w, nth, zq09, zq08, zq2s, zq9b, zq2r, zq2n, Nat.reduceMul, zq2j, dropL, takeL, zq2k, zq8l, zq73, zq8m, zq8k, denL, den, zq2l, zq2h, Nat.reduceAdd, setn, YK, zq8t, zq58, zq06, zq0y, zq0v, zq5a, zq15, zq13, zq5d, zq81, zq7n, zq0a, zq1y, zq1w, zq1v, splice, zq8s, zq9i, normF, zq6m, zq86, zq87, zq8f, zqa1, zq9y, t7n21, T7n21, zq9q, zq4u, zq4w, zq8p, zq6q, zq04, zq92, zq0e, zqa2])
         rw [hk1]
         have hcl2 : (nxD l zs m).length ≤ 4000 := by omega
         refine ⟨⟨by simp only [maxLen]; omega, by omega⟩, fun A5 c5 => ⟨bdk, by rw [cellsR_len, List.length_set, hLl]; omega, ((m + 1 : Nat) : Int), ArOk.to (by omega) (by omega) (by omega), lend_rule fun a W rep => again2 (m + 1, A5, c5) (by show m + 1 ≤ _; omega) (by show _ - (m + 1) < _ - m; omega) a W (rep.res.le (by (simp only [setn, List.nil_append, List.cons_append, leF, leH_nil, leH_cons, leF_nil, lk, scp, scpL, scpO, resF, resH, resO, resV, resVL, nth, Nat.reduceBEq, Nat.reduceLT, decide_true, decide_false, List.length, List.length_cons, List.length_nil, Nat.reduceAdd, Bool.and_self, Bool.and_true, and_true, true_and, numF] <;> try simp)) ?_)⟩⟩
         have s3 : setn (cellsR (L.set k ⟨⟨fr, to, nxD l zs m⟩, nA, nC⟩)) (k * 3 + 2) (.slice A5 ((nxD l zs m).length + 1) c5) = cellsR (L.set k ⟨⟨fr, to, nxD l zs m ++ [(m : Int)]⟩, A5, c5⟩) := by
          rw [cellsR_set (p' := ⟨⟨fr, to, nxD l zs m ++ [(m : Int)]⟩, A5, c5⟩) (pc _ _ _ _) (by omega) (fun j hj => by
           have : j = 0 ∨ j = 1 ∨ j = 2 := by omega
           rcases this with h | h | h <;> subst h <;> simp [PR.cells]), List.set_set]
         rw [s3]
         simp only
         rw [hstep, if_pos rfl]
         (simp only [setn, List.nil_append, List.cons_append, leF, leH_nil, leH_cons, leF_nil, lk, scp, scpL, scpO, resF, resH, resO, resV, resVL, nth, Nat.reduceBEq, Nat.reduceLT, decide_true, decide_false, List.length, List.length_cons, List.length_nil, Nat.reduceAdd, Bool.and_self, Bool.and_true, and_true, true_and, numF] <;> try simp)
         simp [isV]
       | false =>
        simp only [bsv]
        (refine Y_go 600 ?_; dsimp only [zq9y, t7n17, T7n17, zq9r, zq9q, Y_k, zq4u, zq8o, zq6n, Nat.reduceBEq, zq6l, zq6k, YK, zq8t, zq55, zq0t, nth, zq09, zq08, zq0q, zq50, zq04, zq92, zq9b, zq0i, zq9e, zq9i, normF, zq6m, zq86, zq87, zq8a, zq8f, zq9s, zq6h, zq8x, YC, zq9p, t7n16, T7n16, zq9t, Y_gk, zq6c, YR, zq58, zq06, zq0y, zq0v, zq5c, zq1q, zq1n, zq1c, List.nil_append, zq1b, zq18, zq9c, zq4v, zq8p, zq6o, zq0c, zq89, zqa1, t7n15, T7n15, zq4w, zq6q, zq0e, zqa2, zq9u, popTo, zq6i, YP, t7n19, T7n19, zq6g, t7n21, T7n21])
        rw [hi1]
        refine ⟨fun hlt3 => ?_, fun hge3 => ?_⟩
        ·have hlt3 : i < zs.length := by have := of_decide_eq_true hlt3; omega
         obtain ⟨z, hz, hzl⟩ := getz hlt3
         have hz1 : ((z : Nat) : Int).toNat = z := by omega
         refine ⟨⟨by omega, by omega⟩, (z : Int), by rw [Nat.mul_one]; exact isV_get _ _ _ hz, ⟨by omega, by omega⟩, nuI l z, by rw [hz1, Nat.mul_one]; exact isV_get _ _ _ (nuT_get hzl), ((i + 1 : Nat) : Int), ArOk.to (by omega) (by omega) (by omega), lend_rule fun a W rep => again3 (i + 1) (by show i + 1 ≤ _; omega) (by show _ - (i + 1) < _ - i; omega) a W ?_⟩
         rw [stp _ hz, hz1, Bool.false_or]
         have rep1 := rep_bool 15 rep rfl
         generalize (nuI l z == (m : Int)) = d2 at rep1 ⊢
         cases d2 <;> exact rep1.le (by simp only [bsv]; (simp only [setn, List.nil_append, List.cons_append, leF, leH_nil, leH_cons, leF_nil, lk, scp, scpL, scpO, resF, resH, resO, resV, resVL, nth, Nat.reduceBEq, Nat.reduceLT, decide_true, decide_false, List.length, List.length_cons, List.length_nil, Nat.reduceAdd, Bool.and_self, Bool.and_true, and_true, true_and, numF] <;> try simp)) (by (simp only [setn, List.nil_append, List.cons_append, leF, leH_nil, leH_cons, leF_nil, lk, scp, scpL, scpO, resF, resH, resO, resV, resVL, nth, Nat.reduceBEq, Nat.reduceLT, decide_true, decide_false, List.length, List.length_cons, List.length_nil, Nat.reduceAdd, Bool.and_self, Bool.and_true, and_true, true_and, numF] <;> try simp))
        ·have hin := hall (by have := of_decide_eq_false hge3; omega)
         rw [← hin, if_neg (by simp)] at hstep
         refine ⟨((m + 1 : Nat) : Int), ArOk.to (by omega) (by omega) (by omega), lend_rule fun a W rep => again2 (m + 1, nA, nC) (by show m + 1 ≤ _; omega) (by show _ - (m + 1) < _ - m; omega) a W (rep.le (by (simp only [setn, List.nil_append, List.cons_append, leF, leH_nil, leH_cons, leF_nil, lk, scp, scpL, scpO, resF, resH, resO, resV, resVL, nth, Nat.reduceBEq, Nat.reduceLT, decide_true, decide_false, List.length, List.length_cons, List.length_nil, Nat.reduceAdd, Bool.and_self, Bool.and_true, and_true, true_and, numF] <;> try simp)) ?_)⟩
         simp only
         rw [hstep]
         (simp only [setn, List.nil_append, List.cons_append, leF, leH_nil, leH_cons, leF_nil, lk, scp, scpL, scpO, resF, resH, resO, resV, resVL, nth, Nat.reduceBEq, Nat.reduceLT, decide_true, decide_false, List.length, List.length_cons, List.length_nil, Nat.reduceAdd, Bool.and_self, Bool.and_true, and_true, true_and, numF] <;> try simp)
     ·have hme : m = (bgL l).length := by have := of_decide_eq_false hgem; omega
      subst hme
      rw [hnx]
      refine ⟨((k + 1 : Nat) : Int), ArOk.to (by omega) (by omega) (by omega), lend_rule fun a W rep => ?_⟩
      have rep2 : Rep ⟨b, N, st, 153, []⟩ { F := [(0, .val (.slice B l.length bc)), (8, .own 0 0), (9, .own 1 0), (11, .val (.int .i64 ((k + 1 : Nat) : Int)))], H := [.own 3 0 1 (some ⟨g1, 0, none⟩) (l.length + 1) (l.length + 1) (isV (nuT l l.length)), .own 32 0 3 oA (bgL l).length oC (cellsR (L.set k ⟨⟨fr, to, nxL l (bgL l) to⟩, nA, nC⟩))] ++ [.own 3 0 1 nA (nxL l (bgL l) to).length nC (isV (nxL l (bgL l) to))] } a W := (rep.pick [0, 1, 3] (by decide)).le (by (simp only [renF, renV, renVL, renO, pickH, pickE, posOf, setn, List.nil_append, List.cons_append, leF, leH_nil, leH_cons, leF_nil, lk, scp, scpL, scpO, resF, resH, resO, resV, resVL, nth, Nat.reduceBEq, Nat.reduceLT, decide_true, decide_false, List.length, List.length_cons, List.length_nil, Nat.reduceAdd, Bool.and_self, Bool.and_true, and_true, true_and, numF] <;> try simp)) (by (simp only [renF, renV, renVL, renO, pickH, pickE, posOf, setn, List.nil_append, List.cons_append, leF, leH_nil, leH_cons, leF_nil, lk, scp, scpL, scpO, resF, resH, resO, resV, resVL, nth, Nat.reduceBEq, Nat.reduceLT, decide_true, decide_false, List.length, List.length_cons, List.length_nil, Nat.reduceAdd, Bool.and_self, Bool.and_true, and_true, true_and, numF] <;> try simp))
      obtain ⟨rep3, ov⟩ := rep2.cut (H1 := [.own 3 0 1 (some ⟨g1, 0, none⟩) (l.length + 1) (l.length + 1) (isV (nuT l l.length)), .own 32 0 3 oA (bgL l).length oC (cellsR (L.set k ⟨⟨fr, to, nxL l (bgL l) to⟩, nA, nC⟩))]) rfl (rep2.le (s' := { F := [(0, .val (.slice B l.length bc)), (8, .own 0 0), (9, .own 1 0), (11, .val (.int .i64 ((k + 1 : Nat) : Int)))], H := [.own 3 0 1 (some ⟨g1, 0, none⟩) (l.length + 1) (l.length + 1) (isV (nuT l l.length)), .own 32 0 3 oA (bgL l).length oC (cellsR (L.set k ⟨⟨fr, to, nxL l (bgL l) to⟩, nA, nC⟩))] }) (by (simp only [setn, List.nil_append, List.cons_append, leF, leH_nil, leH_cons, leF_nil, lk, scp, scpL, scpO, resF, resH, resO, resV, resVL, nth, Nat.reduceBEq, Nat.reduceLT, decide_true, decide_false, List.length, List.length_cons, List.length_nil, Nat.reduceAdd, Bool.and_self, Bool.and_true, and_true, true_and, numF] <;> try simp)) (by (simp only [setn, List.nil_append, List.cons_append, leF, leH_nil, leH_cons, leF_nil, lk, scp, scpL, scpO, resF, resH, resO, resV, resVL, nth, Nat.reduceBEq, Nat.reduceLT, decide_true, decide_false, List.length, List.length_cons, List.length_nil, Nat.reduceAdd, Bool.and_self, Bool.and_true, and_true, true_and, numF] <;> try simp))).frame
      have hrow := rep2.heap.rowOff (i := 0) rfl 153 []
      have hpa : (⟨fr, to, nxL l (bgL l) to⟩ : Pa) = partL l (bgL l) k := by
       unfold partL
       rw [← hto, List.getD_eq_getElem?_getD, hx]; rfl
      refine again (L.set k (⟨⟨fr, to, nxL l (bgL l) to⟩, nA, nC⟩ : PR), k + 1, W, W.heap.size, _) ⟨by simp only; omega, hov.trans ov, hL.step ov hlt hpa hrow fun a ha => ?_⟩ (by simp only; omega) a W rep3
      have h5 := (rep2.heap.off (i := 0) (g := a.block) rfl (by simp only at ha; rw [ha]; rfl)).2.2
      refine Classical.byContradiction fun hlt => h5 ?_
      exact hov.sub _ ⟨by show a.block < w.heap.size; omega, by simp⟩
   have s2 : ∀ to : Int, setn (cellsR (L.set k ⟨⟨fr, l.length, []⟩, none, 0⟩)) (k * 3 + 1) (.int .i64 to) = cellsR (L.set k ⟨⟨fr, to, []⟩, none, 0⟩) := fun to => by
    rw [cellsR_set (p' := ⟨⟨fr, to, []⟩, none, 0⟩) (pc _ _ _ _) (by omega) (fun j hj => by
     have : j = 0 ∨ j = 1 ∨ j = 2 := by omega
     rcases this with h | h | h <;> subst h <;> rfl), List.set_set]
   have gto : ∀ to : Int, (cellsR (L.set k ⟨⟨fr, to, []⟩, none, 0⟩))[k * 3 + 1]? = some (.int .i64 to) := fun to => by rw [cellsR_get (pc _ _ _ _) (by omega)]; rfl
   have lb : ∀ L' : List PR, L'.length = (bgL l).length → k * 3 + 1 + 1 ≤ (cellsR L').length := fun L' h => by rw [cellsR_len, h]; omega
   refine ⟨bdk, lb _ hLl, ((k + 1 : Nat) : Int), ArOk.to (by omega) (by omega) (by omega), fun hlt2 => ?_, fun hge2 => ?_⟩
   ·have hlt2 : k + 1 < (bgL l).length := by have := of_decide_eq_true hlt2; omega
    have hy : (bgL l)[k + 1]? = some (bgL l)[k + 1] := List.getElem?_eq_getElem hlt2
    generalize (bgL l)[k + 1] = to at hy
    have hr := bgL_range (List.mem_of_getElem? hy)
    have hk2 : ((k + 1 : Nat) : Int).toNat * 3 = (k + 1) * 3 := by omega
    refine ⟨((k + 1 : Nat) : Int), ArOk.to (by omega) (by omega) (by omega), ⟨by omega, by omega⟩, to, ?_, bdk, lb _ (by rw [List.length_set]; exact hLl), bdk, to, ?_, to - 1, ArOk.toSub (by omega) (by omega) (by omega), ?_⟩
    ·have h1 : (L.set k ⟨⟨fr, l.length, []⟩, none, 0⟩)[k + 1]? = some (pr0 to) := by rw [List.getElem?_set, if_neg (by omega)]; exact hL.rest _ _ (by omega) hy
     have := cellsR_get (k := 0) h1 (by omega)
     rw [Nat.add_zero] at this
     rw [hk2, this]; rfl
    ·rw [s2, gto]
    ·rw [s2]
     exact fun a W rep => raw to (by rw [toL_succ, hy]; rfl) a W (rep.le (by (simp only [setn, List.nil_append, List.cons_append, leF, leH_nil, leH_cons, leF_nil, lk, scp, scpL, scpO, resF, resH, resO, resV, resVL, nth, Nat.reduceBEq, Nat.reduceLT, decide_true, decide_false, List.length, List.length_cons, List.length_nil, Nat.reduceAdd, Bool.and_self, Bool.and_true, and_true, true_and, numF] <;> try simp)) (by (simp only [setn, List.nil_append, List.cons_append, leF, leH_nil, leH_cons, leF_nil, lk, scp, scpL, scpO, resF, resH, resO, resV, resVL, nth, Nat.reduceBEq, Nat.reduceLT, decide_true, decide_false, List.length, List.length_cons, List.length_nil, Nat.reduceAdd, Bool.and_self, Bool.and_true, and_true, true_and, numF] <;> try simp)))
   ·have hge2 : ¬ k + 1 < (bgL l).length := by have := of_decide_eq_false hge2; omega
    refine ⟨bdk, l.length, gto _, (l.length : Int) - 1, ArOk.toSub (by omega) (by omega) (by omega), fun a W rep => raw l.length (by rw [toL_succ, List.getElem?_eq_none (by omega)]; rfl) a W (rep.le (by (simp only [setn, List.nil_append, List.cons_append, leF, leH_nil, leH_cons, leF_nil, lk, scp, scpL, scpO, resF, resH, resO, resV, resVL, nth, Nat.reduceBEq, Nat.reduceLT, decide_true, decide_false, List.length, List.length_cons, List.length_nil, Nat.reduceAdd, Bool.and_self, Bool.and_true, and_true, true_and, numF] <;> try simp)) (by (simp only [setn, List.nil_append, List.cons_append, leF, leH_nil, leH_cons, leF_nil, lk, scp, scpL, scpO, resF, resH, resO, resV, resVL, nth, Nat.reduceBEq, Nat.reduceLT, decide_true, decide_false, List.length, List.length_cons, List.length_nil, Nat.reduceAdd, Bool.and_self, Bool.and_true, and_true, true_and, numF] <;> try simp)))⟩
  ·have hke : k = (bgL l).length := by have := of_decide_eq_false hge; omega
   subst hke
   have hfin := hL.fin
   refine ret_rule (vs := [.slice oA (bgL l).length oC]) r7 rfl rfl fun W hW => hR _ _ ⟨oA, oC, L, by rw [hLl]; rfl, hfin, ?_, hL.nx.at hW, hL.new, (hov.heap hW).fresh'⟩
   rw [hLl]
   exact HeapOk.owns (b := w) (N := w.heap.size) (nt := 153) (mk := []) (hov.heap hW) (i := 1) rfl
end Go.Proofs.YtgghmmjoplddbaaDoor
namespace Go.Proofs.YtgghmmjoplddbaaDoor
open Go Go.Sx Go.Isa
set_option maxRecDepth 100000
theorem parts89 (l : List In) (B : Option Addr) (bc : Nat) (w : World) (hl : l.length ≤ 1024) (hB : RowAt w B (cellsI l)) :
  CallsV Tryd.prog 7 [.slice B l.length bc] w (PartsR l w) := by
 refine calls_go (keep := K7) (nt := 153) (svs := [.val (.slice B l.length bc)]) Tryd.func7 x7 n7 (by simp) (by simp [IsL, Is]) fun R hR => ?_
 (refine Y_go 600 ?_; dsimp only [X7, numF, Nat.reduceAdd, zq9r, zq9q, Y_k, zq4u, zq8p, zq6u, YK, zq8t, zq9i, normF, zq6n, Nat.reduceBEq, zq6l, zq6k, zq6m, zq86, zq87, zq9y, t7n37, T7n37, zq8o, zq55, zq0r, zq4w, zq6q, zq04, zq92, zq9b, zq0e, zq67, zq06, zq4t, List.length_nil, List.nil_append, zq8f, t7n36, T7n36, zq58, zq0y, nth, zq09, zq08, zq0v, Int.reduceToNat, Nat.reduceMul, zq5d, zq6o, zq7v, zq7h, zq0a, zq1y, zq1w, denL, den, zq1v, splice, setn, zq8s, t7n35, T7n35, zq9t, zq9v])
 have hn1 : ((l.length + 1 : Nat) : Int).toNat = l.length + 1 := by omega
 refine ⟨((l.length + 1 : Nat) : Int), ArOk.to (by omega) (by omega) (by omega), ⟨by omega, by omega, by omega, by omega⟩, fun g => ?_⟩
 rw [hn1, repN_false]
 refine ⟨⟨by omega, by omega⟩, by rw [bsV_len, List.length_replicate]; omega, ?_⟩
 rw [bsV_set]
 have go118 : ∀ (i : Nat) (x : In), l[i]? = some x → ∀ {H : List SO} (W : World), HeapOk ⟨w, w.heap.size, [], 153, []⟩ H W → CallsV Tryd.prog 20 [.slice B l.length bc, .int .i64 (i : Int)] W (GoR l i x W) := fun i x hx H W hW => goes118 l i x B bc W hx hl (hB.keep hW.fresh')
 refine loop_go (α := Nat) (fun i => i ≤ l.length) (fun _ => ⟨w, w.heap.size, [], 153, []⟩) (fun i => { F := [(0, .val (.slice B l.length bc)), (3, .own 0 0), (4, .val (.int .i64 (i : Int)))], H := [.own 4 0 1 (some ⟨g, 0, none⟩) (l.length + 1) (l.length + 1) (bsV (fsT l i))] }) (fun i => l.length - i) (fun _ => rfl) ?start ?round
 case start =>
  intro a W rep
  exact ⟨0, Nat.zero_le _, rep.le (by (simp only [setn, List.nil_append, List.cons_append, leF, leH_nil, leH_cons, leF_nil, lk, scp, scpL, scpO, resF, resH, resO, resV, resVL, nth, Nat.reduceBEq, Nat.reduceLT, decide_true, decide_false, List.length, List.length_cons, List.length_nil, Nat.reduceAdd, Bool.and_self, Bool.and_true, and_true, true_and, numF] <;> try simp)) (by (simp only [setn, List.nil_append, List.cons_append, leF, leH_nil, leH_cons, leF_nil, lk, scp, scpL, scpO, resF, resH, resO, resV, resVL, nth, Nat.reduceBEq, Nat.reduceLT, decide_true, decide_false, List.length, List.length_cons, List.length_nil, Nat.reduceAdd, Bool.and_self, Bool.and_true, and_true, true_and, numF] <;> try simp); rfl)⟩
 case round =>
  intro i hi I again
  have hi : i ≤ l.length := hi
  (refine Y_go 600 ?_; dsimp only [zq9y, t7n8, T7n8, zq9r, zq9q, Y_k, zq4u, zq8o, zq6n, Nat.reduceBEq, zq6l, zq6k, YK, zq8t, zq55, zq0r, zq50, zq04, zq92, zq9b, zq0i, zq9e, zq9i, normF, zq6m, zq86, zq87, zq8f, zq9s, zq6h, zq8x, YC, zq9p, t7n7, T7n7, zq9t, zq9j, zq9u, popTo, zq6i, YP, t7n34, T7n34, zq4w, zq8p, zq6q, zq0e, zq67, zq06, zq4t, List.length_cons, List.length_nil, Nat.reduceAdd, List.cons_append, List.nil_append, zq8a, t7n33, T7n33, zq6u, t7n32, T7n32, zq9v])
  refine ⟨fun hlt => ?_, fun hge => ?_⟩
  ·have hlt : i < l.length := by have := of_decide_eq_true hlt; omega
   have hx : l[i]? = some l[i] := List.getElem?_eq_getElem hlt
   generalize l[i] = x at hx
   have hst := fsT_step hx
   have hfl := fsT_len l i
   refine call_rule (vs := [.slice B l.length bc, .int .i64 (i : Int)]) rfl (R := fun W v W' => GoR l i x W v W') (fun W hW => go118 i x hx W hW) fun W v W' hW ⟨A, c, hv, ho, hk⟩ => ?_
   obtain ⟨A', c', e1, e2, e5, _⟩ := hW.gain ho hk
   injection e1 with e3 _ e4
   subst e3; subst e4; subst hv
   have hgl := goesL_len l.length i x
   have hgr : ∀ t ∈ goesL l.length i x, 0 ≤ t ∧ t < l.length := fun t ht => goesL_range ht
   generalize hz : goesL l.length i x = zs at *
   cases he : endsB x with
   | false =>
    refine ⟨.tup [.own 1 0, .bf], _, ?_, e2, e5, ?_⟩
    ·simp only [Is, IsL]; exact ⟨_, ⟨_, _, ⟨_, _, _, _, _, _, _, rfl, Nat.le_refl _, ⟨_, _, _, rfl⟩, fun _ => rfl⟩, ⟨_, _, rfl, rfl, rfl⟩, rfl⟩, rfl⟩
    clear e5 e2 hW ho hk
    (refine Y_go 600 ?_; dsimp only [zq8t, List.cons_append, List.nil_append, Y_k, zq4u, zq8o, zq6n, Nat.reduceBEq, zq6k, YK, zq5j, zq2f, nth, zq2e, zq6l, zq9i, normF, zq6m, zq86, zq89, zq8a, zq8f, zq87, zq9y, t7n5, T7n5, zq9r, zq9q, zq9s, zq6g, YC, zq9p, zqa1, t7n6, T7n6, zq4w, zq8p, zq6q, zq04, zq92, zq9b, zq0e, zqa2])
    have hst : fsT l (i + 1) = fsT l i := by rw [hst]; unfold fsI; rw [he]; rfl
    refine ⟨((i + 1 : Nat) : Int), ArOk.to (by omega) (by omega) (by omega), lend_rule fun a W rep => again (i + 1) (by show i + 1 ≤ _; omega) (by show _ - (i + 1) < _ - i; omega) a W (rep.le (by (simp only [setn, List.nil_append, List.cons_append, leF, leH_nil, leH_cons, leF_nil, lk, scp, scpL, scpO, resF, resH, resO, resV, resVL, nth, Nat.reduceBEq, Nat.reduceLT, decide_true, decide_false, List.length, List.length_cons, List.length_nil, Nat.reduceAdd, Bool.and_self, Bool.and_true, and_true, true_and, numF] <;> try simp)) ?_)⟩
    rw [hst]; (simp only [setn, List.nil_append, List.cons_append, leF, leH_nil, leH_cons, leF_nil, lk, scp, scpL, scpO, resF, resH, resO, resV, resVL, nth, Nat.reduceBEq, Nat.reduceLT, decide_true, decide_false, List.length, List.length_cons, List.length_nil, Nat.reduceAdd, Bool.and_self, Bool.and_true, and_true, true_and, numF] <;> try simp)
   | true =>
    refine ⟨.tup [.own 1 0, .bt], _, ?_, e2, e5, ?_⟩
    ·simp only [Is, IsL]; exact ⟨_, ⟨_, _, ⟨_, _, _, _, _, _, _, rfl, Nat.le_refl _, ⟨_, _, _, rfl⟩, fun _ => rfl⟩, ⟨_, _, rfl, rfl, rfl⟩, rfl⟩, rfl⟩
    clear e5 e2 hW ho hk
    have hst : fsT l (i + 1) = putB ((fsT l i).set (i + 1) true) zs := by rw [hst]; unfold fsI; rw [he, hz]; rfl
    (refine Y_go 600 ?_; dsimp only [zq8t, List.cons_append, List.nil_append, Y_k, zq4u, zq8o, zq6n, Nat.reduceBEq, zq6k, YK, zq5j, zq2f, nth, zq2e, zq6l, zq9i, normF, zq6m, zq86, zq89, zq8f, zq87, zq9y, t7n5, T7n5, zq9r, zq9q, zq9s, zq6f, YC, t7n4, T7n4, zq4w, zq8p, zq6q, zq04, zq92, zq9b, zq0e, zq58, zq06, zq0y, zq09, zq08, zq0v, zq5d, zq6o, zq7v, zq7h, zq0a, zq1y, zq1w, denL, den, zq1v, splice, setn, zq8s, t7n3, T7n3, zq9t, zq9v])
    have hi1 : ((i + 1 : Nat) : Int).toNat * 1 = i + 1 := by omega
    refine ⟨((i + 1 : Nat) : Int), ArOk.to (by omega) (by omega) (by omega), ⟨by omega, by omega⟩, by rw [bsV_len]; omega, ?_⟩
    rw [hi1, bsV_set]
    refine loop_go (α := Nat) (fun k => k ≤ zs.length) (fun _ => ⟨w, w.heap.size, [], 153, []⟩) (fun k => { F := [(0, .val (.slice B l.length bc)), (3, .own 0 0), (4, .val (.int .i64 (i : Int))), (5, .own 1 0), (7, .val (.int .i64 (k : Int)))], H := [.own 4 0 1 (some ⟨g, 0, none⟩) (l.length + 1) (l.length + 1) (bsV (putB ((fsT l i).set (i + 1) true) (zs.take k))), .own 3 0 1 A zs.length c (isV zs)] }) (fun k => zs.length - k) (fun _ => rfl) ?start2 ?round2
    case start2 =>
     intro a W rep
     exact ⟨0, Nat.zero_le _, rep.le (by (simp only [setn, List.nil_append, List.cons_append, leF, leH_nil, leH_cons, leF_nil, lk, scp, scpL, scpO, resF, resH, resO, resV, resVL, nth, Nat.reduceBEq, Nat.reduceLT, decide_true, decide_false, List.length, List.length_cons, List.length_nil, Nat.reduceAdd, Bool.and_self, Bool.and_true, and_true, true_and, numF] <;> try simp)) (by (simp only [setn, List.nil_append, List.cons_append, leF, leH_nil, leH_cons, leF_nil, lk, scp, scpL, scpO, resF, resH, resO, resV, resVL, nth, Nat.reduceBEq, Nat.reduceLT, decide_true, decide_false, List.length, List.length_cons, List.length_nil, Nat.reduceAdd, Bool.and_self, Bool.and_true, and_true, true_and, numF] <;> try simp); rfl)⟩
    case round2 =>
     intro k hk I2 again2
     have hk : k ≤ zs.length := hk
     (refine Y_go 600 ?_; dsimp only [zq9y, t7n2, T7n2, zq9r, zq9q, Y_k, zq4u, zq8o, zq6n, Nat.reduceBEq, zq6l, zq6k, YK, zq8t, zq55, zq0t, nth, zq09, zq08, zq0q, zq50, zq04, zq92, zq9b, zq0i, zq9e, zq9i, normF, zq6m, zq86, zq87, zq8f, zq9s, zq6h, zq8x, YC, zq9p, t7n1, T7n1, zq9t, zq58, zq06, zq0y, zq0v, zq5c, zq1q, zq1n, zq1c, List.nil_append, zq1b, zq18, zq5d, zq8p, zq6o, zq7v, zq7h, zq0a, zq1y, zq1w, denL, den, zq1v, splice, setn, zq8s, zq89, zqa1, t7n0, T7n0, zq4w, zq6q, zq0e, zqa2, zq9u, popTo, zq6i, YP, t7n6, T7n6, zq8a])
     refine ⟨fun hltk => ?_, fun hgek => ?_⟩
     ·have hltk : k < zs.length := by have := of_decide_eq_true hltk; omega
      have ht : zs[k]? = some zs[k] := List.getElem?_eq_getElem hltk
      have htr := hgr _ (List.getElem_mem hltk)
      generalize zs[k] = t at ht htr
      have hk1 : ((k : Nat) : Int).toNat = k := by omega
      rw [hk1]
      refine ⟨⟨by omega, by omega⟩, t, by rw [Nat.mul_one]; exact isV_get _ _ _ ht, ⟨by omega, by omega⟩, by rw [bsV_len, putB_len, List.length_set]; omega, ((k + 1 : Nat) : Int), ArOk.to (by omega) (by omega) (by omega), lend_rule fun a W rep => again2 (k + 1) (by show k + 1 ≤ _; omega) (by show _ - (k + 1) < _ - k; omega) a W (rep.le (by (simp only [setn, List.nil_append, List.cons_append, leF, leH_nil, leH_cons, leF_nil, lk, scp, scpL, scpO, resF, resH, resO, resV, resVL, nth, Nat.reduceBEq, Nat.reduceLT, decide_true, decide_false, List.length, List.length_cons, List.length_nil, Nat.reduceAdd, Bool.and_self, Bool.and_true, and_true, true_and, numF] <;> try simp)) ?_)⟩
      rw [Nat.mul_one, bsV_set, takeI_snoc ht, putB_snoc]
      (simp only [setn, List.nil_append, List.cons_append, leF, leH_nil, leH_cons, leF_nil, lk, scp, scpL, scpO, resF, resH, resO, resV, resVL, nth, Nat.reduceBEq, Nat.reduceLT, decide_true, decide_false, List.length, List.length_cons, List.length_nil, Nat.reduceAdd, Bool.and_self, Bool.and_true, and_true, true_and, numF] <;> try simp)
     ·have hkl : k = zs.length := by have := of_decide_eq_false hgek; omega
      subst hkl
      refine ⟨((i + 1 : Nat) : Int), ArOk.to (by omega) (by omega) (by omega), lend_rule fun a W rep => again (i + 1) (by show i + 1 ≤ _; omega) (by show _ - (i + 1) < _ - i; omega) a W (rep.le (by (simp only [setn, List.nil_append, List.cons_append, leF, leH_nil, leH_cons, leF_nil, lk, scp, scpL, scpO, resF, resH, resO, resV, resVL, nth, Nat.reduceBEq, Nat.reduceLT, decide_true, decide_false, List.length, List.length_cons, List.length_nil, Nat.reduceAdd, Bool.and_self, Bool.and_true, and_true, true_and, numF] <;> try simp)) ?_)⟩
      rw [hst, List.take_length]; (simp only [setn, List.nil_append, List.cons_append, leF, leH_nil, leH_cons, leF_nil, lk, scp, scpL, scpO, resF, resH, resO, resV, resVL, nth, Nat.reduceBEq, Nat.reduceLT, decide_true, decide_false, List.length, List.length_cons, List.length_nil, Nat.reduceAdd, Bool.and_self, Bool.and_true, and_true, true_and, numF] <;> try simp)
  ·have hil : i = l.length := by have := of_decide_eq_false hge; omega
   subst hil
   clear again
   refine ⟨((l.length + 1 : Nat) : Int), ArOk.to (by omega) (by omega) (by omega), ⟨by omega, by omega, by omega, by omega⟩, fun g1 => ?_⟩
   rw [hn1]
   refine loop_go (α := Nat × Option Addr × Nat) (fun q => q.1 ≤ l.length) (fun _ => ⟨w, w.heap.size, [], 153, []⟩) (fun q => { F := [(0, .val (.slice B l.length bc)), (3, .own 0 0), (8, .own 1 0), (9, .own 2 0), (10, .val (.int .i64 (q.1 : Int)))], H := [.own 4 0 1 (some ⟨g, 0, none⟩) (l.length + 1) (l.length + 1) (bsV (fsT l l.length)), .own 3 0 1 (some ⟨g1, 0, none⟩) (l.length + 1) (l.length + 1) (isV (nuT l q.1)), .own 32 0 3 q.2.1 ((frT l q.1).map pr0).length q.2.2 (cellsR ((frT l q.1).map pr0))] }) (fun q => l.length - q.1) (fun _ => rfl) ?start3 ?round3
   case start3 =>
    intro a W rep
    have rep1 := (rep.le (s' := { F := [(0, .val (.slice B l.length bc)), (3, .own 0 0), (8, .own 1 0), (9, .val (.slice none 0 0)), (10, .val (.int .i64 0))], H := [.own 4 0 1 (some ⟨g, 0, none⟩) (l.length + 1) (l.length + 1) (bsV (fsT l l.length)), .own 3 0 1 (some ⟨g1, 0, none⟩) (l.length + 1) (l.length + 1) (repN (l.length + 1) [.int .i64 0])] }) (by (simp only [setn, List.nil_append, List.cons_append, leF, leH_nil, leH_cons, leF_nil, lk, scp, scpL, scpO, resF, resH, resO, resV, resVL, nth, Nat.reduceBEq, Nat.reduceLT, decide_true, decide_false, List.length, List.length_cons, List.length_nil, Nat.reduceAdd, Bool.and_self, Bool.and_true, and_true, true_and, numF] <;> try simp)) (by (simp only [setn, List.nil_append, List.cons_append, leF, leH_nil, leH_cons, leF_nil, lk, scp, scpL, scpO, resF, resH, resO, resV, resVL, nth, Nat.reduceBEq, Nat.reduceLT, decide_true, decide_false, List.length, List.length_cons, List.length_nil, Nat.reduceAdd, Bool.and_self, Bool.and_true, and_true, true_and, numF] <;> try simp))).adopt 9 32 3 rfl
    exact ⟨(0, none, 0), Nat.zero_le _, rep1.le (by (simp only [setn, List.nil_append, List.cons_append, leF, leH_nil, leH_cons, leF_nil, lk, scp, scpL, scpO, resF, resH, resO, resV, resVL, nth, Nat.reduceBEq, Nat.reduceLT, decide_true, decide_false, List.length, List.length_cons, List.length_nil, Nat.reduceAdd, Bool.and_self, Bool.and_true, and_true, true_and, numF] <;> try simp)) (by (simp only [setn, List.nil_append, List.cons_append, leF, leH_nil, leH_cons, leF_nil, lk, scp, scpL, scpO, resF, resH, resO, resV, resVL, nth, Nat.reduceBEq, Nat.reduceLT, decide_true, decide_false, List.length, List.length_cons, List.length_nil, Nat.reduceAdd, Bool.and_self, Bool.and_true, and_true, true_and, numF] <;> try simp); exact ⟨by rw [nuT_zero, repI_zero], rfl, rfl⟩)⟩
   case round3 =>
    rintro ⟨i, oA, oC⟩ hi I again
    have hi : i ≤ l.length := hi
    simp only at again ⊢
    (refine Y_go 600 ?_; dsimp only [zq9y, t7n13, T7n13, zq9r, zq9q, Y_k, zq4u, zq8o, zq6n, Nat.reduceBEq, zq6l, zq6k, YK, zq8t, zq55, zq0r, zq50, zq04, zq92, zq9b, zq0i, zq9e, zq9i, normF, zq6m, zq86, zq87, zq8f, zq9s, zq6h, zq8x, YC, zq9p, t7n12, T7n12, zq9t, zq58, zq06, zq0y, nth, zq09, zq08, zq0v, zq5c, zq1q, zq1n, zq1d, List.nil_append, zq1b, zq18, zq89, t7n9, T7n9, zq5g, List.map, zq6q, zq6u, zq21, zq7u, zq73, zq0a, dropL, takeL, zq20, splice, setn, zq22, zq25, zq5h, repL, List.cons_append, zq23, Nat.reduceMul, zq7t, List.length_cons, List.length_nil, Nat.reduceAdd, zq8l, zq8m, zq77, zq8k, zq24, zq26, zq5l, zq2w, zq2s, zq2r, zq2n, zq2j, zq2k, denL, den, zq2l, zq2h, t7n10, T7n10, zq0t, zq0q, zq4w, zq8p, zq0e, zq5d, zq1y, zq1w, zq1v, zq8s, zqa1, t7n11, T7n11, zqa2, zq8a, zq9u, popTo, zq6i, YP, t7n31, T7n31, zq9v])
    refine ⟨fun hlt => ?_, fun hge => ?_⟩
    ·have hlt : i < l.length := by have := of_decide_eq_true hlt; omega
     have hi1 : ((i : Nat) : Int).toNat = i := by omega
     have hfb : (bsV (fsT l l.length))[i * 1]? = some (.bool (fsB l i)) := by
      rw [Nat.mul_one]
      refine bsV_get ?_
      have : i < (fsT l l.length).length := by rw [fsT_len]; omega
      unfold fsB
      rw [List.getD_eq_getElem?_getD, List.getElem?_eq_getElem this]; rfl
     have hfr : frT l (i + 1) = if fsB l i then frT l i ++ [(i : Int)] else frT l i := rfl
     have hfl := frT_len l i
     have hnl := nuT_len l i
     have hns := nuT_step l i
     have hnu : nuI l i = ((frT l (i + 1)).length : Int) - 1 := rfl
     have bdn : (0 : Int) ≤ (i : Int) ∧ (i : Int) < ((l.length + 1 : Nat) : Int) := ⟨by omega, by omega⟩
     have lbn : i * 1 + 1 ≤ (isV (nuT l i)).length := by rw [isV_len, hnl]; omega
     rw [hi1]
     refine ⟨bdn, fsB l i, hfb, fun hb => ?_, fun hb => ?_⟩
     ·rw [if_pos hb] at hfr
      have hlen : ((frT l (i + 1)).map pr0).length = ((frT l i).map pr0).length + 1 := by rw [hfr]; simp
      have hcel : cellsR ((frT l (i + 1)).map pr0) = cellsR ((frT l i).map pr0) ++ [.int .i64 (i : Int), .int .i64 0, .slice none 0 0] := by
       rw [hfr, List.map_append]; simp [cellsR, PR.cells, pr0]
      have hml : ((frT l i).map pr0).length = (frT l i).length := List.length_map _
      intro g5
      refine ⟨⟨by simp only [maxLen]; omega, by omega⟩, fun A5 c5 => ⟨nuI l i, ArOk.toSub (by rw [hnu, hfr]; simp) (by rw [hnu]; omega) (by rw [hnu, hfr]; simp; omega), bdn, lbn, ((i + 1 : Nat) : Int), ArOk.to (by omega) (by omega) (by omega), lend_rule fun a W rep => again (i + 1, A5, c5) (by show i + 1 ≤ _; omega) (by show _ - (i + 1) < _ - i; omega) a W (rep.res.le (by (simp only [setn, List.nil_append, List.cons_append, leF, leH_nil, leH_cons, leF_nil, lk, scp, scpL, scpO, resF, resH, resO, resV, resVL, nth, Nat.reduceBEq, Nat.reduceLT, decide_true, decide_false, List.length, List.length_cons, List.length_nil, Nat.reduceAdd, Bool.and_self, Bool.and_true, and_true, true_and, numF] <;> try simp)) ?_)⟩⟩
      simp only
      rw [hns, hlen, hcel, Nat.mul_one, isV_set]
      (simp only [setn, List.nil_append, List.cons_append, leF, leH_nil, leH_cons, leF_nil, lk, scp, scpL, scpO, resF, resH, resO, resV, resVL, nth, Nat.reduceBEq, Nat.reduceLT, decide_true, decide_false, List.length, List.length_cons, List.length_nil, Nat.reduceAdd, Bool.and_self, Bool.and_true, and_true, true_and, numF] <;> try simp)
     ·rw [if_neg (by simp [hb])] at hfr
      have hml : ((frT l i).map pr0).length = (frT l i).length := List.length_map _
      refine ⟨nuI l i, ArOk.toSub (by rw [hnu, hfr, hml]) (by rw [hnu]; omega) (by rw [hnu, hfr]; omega), bdn, lbn, ((i + 1 : Nat) : Int), ArOk.to (by omega) (by omega) (by omega), lend_rule fun a W rep => again (i + 1, oA, oC) (by show i + 1 ≤ _; omega) (by show _ - (i + 1) < _ - i; omega) a W (rep.le (by (simp only [setn, List.nil_append, List.cons_append, leF, leH_nil, leH_cons, leF_nil, lk, scp, scpL, scpO, resF, resH, resO, resV, resVL, nth, Nat.reduceBEq, Nat.reduceLT, decide_true, decide_false, List.length, List.length_cons, List.length_nil, Nat.reduceAdd, Bool.and_self, Bool.and_true, and_true, true_and, numF] <;> try simp)) ?_)⟩
      simp only
      rw [hns, hfr, Nat.mul_one, isV_set]
      (simp only [setn, List.nil_append, List.cons_append, leF, leH_nil, leH_cons, leF_nil, lk, scp, scpL, scpO, resF, resH, resO, resV, resVL, nth, Nat.reduceBEq, Nat.reduceLT, decide_true, decide_false, List.length, List.length_cons, List.length_nil, Nat.reduceAdd, Bool.and_self, Bool.and_true, and_true, true_and, numF] <;> try simp)
    ·have hil : i = l.length := by have := of_decide_eq_false hge; omega
     subst hil
     clear again
     rw [frT_all]
     refine G.le (E' := ⟨w, w.heap.size, [], 153, []⟩) rfl (s' := { F := [(0, .val (.slice B l.length bc)), (8, .own 0 0), (9, .own 1 0), (11, .val (.int .i64 0))], H := [.own 3 0 1 (some ⟨g1, 0, none⟩) (l.length + 1) (l.length + 1) (isV (nuT l l.length)), .own 32 0 3 oA (bgL l).length oC (cellsR ((bgL l).map pr0))] }) (fun a W rep => (rep.pick [1, 2] (by decide)).le (by (simp only [renF, renV, renVL, renO, pickH, pickE, posOf, setn, List.nil_append, List.cons_append, leF, leH_nil, leH_cons, leF_nil, lk, scp, scpL, scpO, resF, resH, resO, resV, resVL, nth, Nat.reduceBEq, Nat.reduceLT, decide_true, decide_false, List.length, List.length_cons, List.length_nil, Nat.reduceAdd, Bool.and_self, Bool.and_true, and_true, true_and, numF] <;> try simp)) (by (simp only [renF, renV, renVL, renO, pickH, pickE, posOf, setn, List.nil_append, List.cons_append, leF, leH_nil, leH_cons, leF_nil, lk, scp, scpL, scpO, resF, resH, resO, resV, resVL, nth, Nat.reduceBEq, Nat.reduceLT, decide_true, decide_false, List.length, List.length_cons, List.length_nil, Nat.reduceAdd, Bool.and_self, Bool.and_true, and_true, true_and, numF] <;> try simp))) ?_
     exact ph3 hl hB hR g1 oA oC
end Go.Proofs.YtgghmmjoplddbaaDoor
