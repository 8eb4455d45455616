/- The document's drop. -/
import Derived.Test.YtlbiogokpadaoaaGreatDoorDpPlain
import Derived.Test.YtlbiogokpadaoaaGreatDoorBgIsa4
import Derived.Test.YtlbiogokpadaoaaGreatDoorBgCodeDrop
import Derived.Test.YtlbiogokpadaoaaGreatDoorSxGhost
set_option linter.unusedSimpArgs false
set_option linter.unusedVariables false
set_option linter.unnecessarySimpa false
namespace Go.Proofs.YtlbiogokpadaoaaGreatDoor
open Go Go.Sx Go.Isa
set_option maxRecDepth 100000
def bV (o : List Bool) : List Value := o.map Value.bool
theorem bV_get {o : List Bool} {j : Nat} (h : j < o.length) : (bV o)[j]? = some (.bool (o.getD j false)) := by
 unfold bV
 rw [List.getElem?_map, List.getElem?_eq_getElem h]
 simp [List.getD, List.getElem?_eq_getElem h]
theorem bV_len (o : List Bool) : (bV o).length = o.length := by simp [bV]
def gB (g : List Bool) (i : Nat) : Bool := g.getD i false
structure D94 where
 i : Nat
 A : Option Addr
 c : Nat
theorem drop94 (A B : Option Addr) (c d : Nat) (l : List In) (g : List Bool) (w : World) (hA : RowAt w A (cellsI l)) (hB : RowAt w B (bV g)) (hl : l.length ≤ 2000) (hg : g.length = l.length) :
  CallsV Tryz.prog 94 [.slice A l.length c, .slice B l.length d] w fun v w' => World.ownsB w' w.heap.size 41 5 v (dropP (gB g) l).length (cellsI (dropP (gB g) l)) ∧ Fresh w w' := by
 refine calls_go (keep := K94) (nt := 56) (svs := [.val (.slice A l.length c), .val (.slice B l.length d)]) Tryz.func94 x94 n94 (by simp) (by simp [IsL, Is]) fun R hR => ?_
 have gc : ∀ {i : Nat}, i < l.length → CellAt ⟨w, w.heap.size, [], 56, []⟩ B (i * 1) (.bool (gB g i)) := fun {i} hi => hB.cell (by rw [Nat.mul_one]; exact bV_get (by omega))
 have gs : ∀ {i : Nat}, i < l.length → B.isSome = true := fun {i} hi => hB.isSome (j := i) (by rw [bV_len]; omega)
 (refine Y_go 600 ?_; dsimp only [X94, numF, Nat.reduceAdd, zq9q, zq9p, Y_k, zq4t, zq8o, zq6t, YK, zq8s, zq9h, normF, zq6m, Nat.reduceBEq, zq6k, zq6j, zq6l, zq85, zq86, zq9x, t94n16, T94n16, t94n15, T94n15, zq6p, zq9s, zq9u])
 refine loop_go (α := D94) (fun y => y.i ≤ l.length) (fun _ => ⟨w, w.heap.size, [], 56, []⟩) (fun y => { F := [(0, .val (.slice A l.length c)), (1, .val (.slice B l.length d)), (5, .own 0 0), (6, .val (.int .i64 (y.i : Int)))], H := [.own 41 0 5 y.A (dropTo (gB g) l y.i).length y.c (cellsI (dropTo (gB g) l y.i))] }) (fun y => l.length - y.i) (fun _ => rfl) ?start ?round
 case start =>
  intro a W rep
  refine ⟨⟨0, none, 0⟩, Nat.zero_le _, ?_⟩
  have rep1 := (rep.le (s' := { F := [(0, .val (.slice A l.length c)), (1, .val (.slice B l.length d)), (5, .val (.slice none 0 0)), (6, .val (.int .i64 0))], H := [] }) (by (simp only [setn, List.nil_append, List.cons_append, leF, leH_nil, leH_cons, leF_nil, lk, scp, scpL, scpO, resF, resH, resO, resV, resVL, nth, Nat.reduceBEq, Nat.reduceLT, decide_true, decide_false, List.length, List.length_cons, List.length_nil, Nat.reduceAdd, Bool.and_self, Bool.and_true, and_true, true_and, numF] <;> try simp)) (by (simp only [setn, List.nil_append, List.cons_append, leF, leH_nil, leH_cons, leF_nil, lk, scp, scpL, scpO, resF, resH, resO, resV, resVL, nth, Nat.reduceBEq, Nat.reduceLT, decide_true, decide_false, List.length, List.length_cons, List.length_nil, Nat.reduceAdd, Bool.and_self, Bool.and_true, and_true, true_and, numF] <;> try simp))).adopt 5 41 5 rfl
  exact rep1.le (by (simp only [setn, List.nil_append, List.cons_append, leF, leH_nil, leH_cons, leF_nil, lk, scp, scpL, scpO, resF, resH, resO, resV, resVL, nth, Nat.reduceBEq, Nat.reduceLT, decide_true, decide_false, List.length, List.length_cons, List.length_nil, Nat.reduceAdd, Bool.and_self, Bool.and_true, and_true, true_and, numF] <;> try simp)) (by (simp only [setn, List.nil_append, List.cons_append, leF, leH_nil, leH_cons, leF_nil, lk, scp, scpL, scpO, resF, resH, resO, resV, resVL, nth, Nat.reduceBEq, Nat.reduceLT, decide_true, decide_false, List.length, List.length_cons, List.length_nil, Nat.reduceAdd, Bool.and_self, Bool.and_true, and_true, true_and, numF] <;> try simp); exact ⟨rfl, rfl⟩)
 case round =>
  rintro ⟨i, A2, c2⟩ hi I again
  have hi : i ≤ l.length := hi
  have hdl := dropTo_len (gB g) l i hi
  have hle := leftN_le (gB g) i
  (refine Y_go 600 ?_; dsimp only [zq9x, t94n13, T94n13, zq9q, zq9p, Y_k, zq4t, zq8n, zq6m, Nat.reduceBEq, zq6k, zq6j, YK, zq8s, zq54, zq0r, zq4z, zq04, zq91, zq9a, zq0i, zq9d, zq9h, normF, zq6l, zq85, zq86, zq8e, zq9r, zq6g, zq8w, YC, zq9o, t94n12, T94n12, zq9s, zq57, zq06, zq0w, zq5b, zq1p, zq1d, List.nil_append, zq1b, zq18, zq88, zq9t, popTo, zq6h, YP, t94n11, T94n11, zq4v, zq8o, zq6p, zq0e, zqa1, t94n10, T94n10, zq1c, List.cons_append, zq17, zq5d, List.length_cons, List.length_nil, Nat.reduceAdd, List.map, zq5c, zq7s, zq8k, zq72, zq8l, zq8j, zq0a, zq1x, nth, zq1t, dropL, takeL, zq1r, splice, setn, zq8r, zq89, zq8b, t94n9, T94n9, zq1o, zq1k, zq19, zq9i, t94n14, T94n14, zq9w])
  refine ⟨fun hlt => ?_, fun hge => ?_⟩
  rotate_left
  ·have hil : i = l.length := by have := of_decide_eq_false hge; omega
   subst hil
   exact ret_rule (vs := [_]) r94 rfl rfl fun W hW => hR _ _ ⟨hW.owns (i := 0) rfl, hW.fresh'⟩
  have hlt : i < l.length := by have := of_decide_eq_true hlt; omega
  have hi1 : ((i : Nat) : Int).toNat = i := by omega
  have hx : l[i]? = some l[i] := List.getElem?_eq_getElem hlt
  rw [hi1]
  refine ⟨⟨by omega, by omega, gs hlt⟩, gB g i, gc hlt, fun hb => ⟨((i + 1 : Nat) : Int), ArOk.to (by omega) (by omega) (by omega), ?_⟩, fun hb => ?_⟩
  ·have e : dropTo (gB g) l (i + 1) = dropTo (gB g) l i := by simp [dropTo, hx, hb]
   exact lend_rule fun a W rep => again ⟨i + 1, A2, c2⟩ (by show i + 1 ≤ _; omega) (by show l.length - (i + 1) < l.length - i; omega) a W (rep.le (by (simp only [setn, List.nil_append, List.cons_append, leF, leH_nil, leH_cons, leF_nil, lk, scp, scpL, scpO, resF, resH, resO, resV, resVL, nth, Nat.reduceBEq, Nat.reduceLT, decide_true, decide_false, List.length, List.length_cons, List.length_nil, Nat.reduceAdd, Bool.and_self, Bool.and_true, and_true, true_and, numF] <;> try simp)) (by rw [e]; (simp only [setn, List.nil_append, List.cons_append, leF, leH_nil, leH_cons, leF_nil, lk, scp, scpL, scpO, resF, resH, resO, resV, resVL, nth, Nat.reduceBEq, Nat.reduceLT, decide_true, decide_false, List.length, List.length_cons, List.length_nil, Nat.reduceAdd, Bool.and_self, Bool.and_true, and_true, true_and, numF] <;> try simp)))
  ·refine ⟨⟨by omega, by omega, someI hA hlt⟩, _, cellI hA hlt (k := 0) rfl, _, cellI hA hlt (k := 1) rfl, _, cellI hA hlt (k := 2) rfl, _, cellI hA hlt (k := 3) rfl, _, cellI hA hlt (k := 4) rfl, fun gx => ?_⟩
   generalize l[i] = x at hx
   refine call_val (vs := [In.val x]) rfl (fun W hW => goes93 x W) fun v hv => ⟨.val (.int .i64 (goK x)), by rw [hv]; simp [Is], ?_⟩
   (refine Y_go 600 ?_; dsimp only [zq8s, Y_k, zq4t, zq8n, zq6m, Nat.reduceBEq, zq6j, YK, zq9h, normF, zq6k, zq6l, zq85, zq89, zq88, zq86, zq8b, zq8e, zq9x, t94n8, T94n8, zq9q, zq9p, zq4z, zq8o, zq6p, zq04, zq91, zq9a, zq0i, zq9c, Y_gk, zq6c, YR, zq59, zq14, Nat.reduceAdd, zq68, zq5b, zq1o, nth, zq1k, List.length_cons, List.length_nil, dropL, takeL, zq19, zq18, zq54, zq0r, zq9d, zq4u, zq6o, zq0b, zq9r, zq6g, zq8w, YC, t94n6, T94n6, t94n5, T94n5, zq9s, zq9u, zq9o, t94n7, T94n7, zq17, zq5g, List.map, repL, List.cons_append, List.nil_append, zq23, Nat.reduceMul, zq7s, zq8k, zq72, zq8l, zq8j, zq0a, zq20, splice, setn, zq24, zq26, zq5k, zq2v, zq09, zq08, zq2r, zq2q, zq2n, zq2j, zq2k, denL, den, zq2l, zq2h, zqa0, t94n11, T94n11, zq4v, zq0e, zqa1, YS, zq6a, zq0c, zq6f])
   have hcap : ((dropTo (gB g) l i).length + 1 ≤ maxLen ∧ ((dropTo (gB g) l i).length + 1) * 40 ≤ 140737488355328) := ⟨by simp only [maxLen]; omega, by omega⟩
   have fin : ∀ (y : In) (A3 : Option Addr) (c3 : Nat) (F : List (Nat × SV)) (H : List SO), adjI (gB g) l.length x = y → leF 1 F [(0, .val (.slice A l.length c)), (1, .val (.slice B l.length d)), (5, .own 0 1), (6, .val (.int .i64 ((i + 1 : Nat) : Int)))] → leH 1 H [.own 41 1 5 A3 ((dropTo (gB g) l i).length + 1) c3 (cellsI (dropTo (gB g) l i) ++ y.cells)] → G (cxOf Tryz.prog Tryz.f94 K94 T94 R) ⟨w, w.heap.size, [], 56, []⟩ [.lend I, .blk 0, .code (.ref 14)] { F := F, H := H } := by
    intro y A3 c3 F H hy hF hH
    have e : dropTo (gB g) l (i + 1) = dropTo (gB g) l i ++ [y] := by simp [dropTo, hx, hb, hy]
    refine lend_rule fun a W rep => again ⟨i + 1, A3, c3⟩ (by show i + 1 ≤ _; omega) (by show l.length - (i + 1) < l.length - i; omega) a W ((rep.le (s' := { F := [(0, .val (.slice A l.length c)), (1, .val (.slice B l.length d)), (5, .own 0 1), (6, .val (.int .i64 ((i + 1 : Nat) : Int)))], H := [.own 41 1 5 A3 ((dropTo (gB g) l i).length + 1) c3 (cellsI (dropTo (gB g) l i) ++ y.cells)] }) hF hH).res.le (by (simp only [setn, List.nil_append, List.cons_append, leF, leH_nil, leH_cons, leF_nil, lk, scp, scpL, scpO, resF, resH, resO, resV, resVL, nth, Nat.reduceBEq, Nat.reduceLT, decide_true, decide_false, List.length, List.length_cons, List.length_nil, Nat.reduceAdd, Bool.and_self, Bool.and_true, and_true, true_and, numF] <;> try simp)) ?_)
    rw [e, cellsI_app, List.length_append]
    (simp only [setn, List.nil_append, List.cons_append, leF, leH_nil, leH_cons, leF_nil, lk, scp, scpL, scpO, resF, resH, resO, resV, resVL, nth, Nat.reduceBEq, Nat.reduceLT, decide_true, decide_false, List.length, List.length_cons, List.length_nil, Nat.reduceAdd, Bool.and_self, Bool.and_true, and_true, true_and, numF] <;> try simp)
    simp [cellsI]
   refine ⟨fun hk => ⟨fun hm => ?_, fun hm g1 => ⟨hcap, fun A3 c3 => ⟨((i + 1 : Nat) : Int), ArOk.to (by omega) (by omega) (by omega), fin x A3 c3 _ _ ?_ (by (simp only [setn, List.nil_append, List.cons_append, leF, leH_nil, leH_cons, leF_nil, lk, scp, scpL, scpO, resF, resH, resO, resV, resVL, nth, Nat.reduceBEq, Nat.reduceLT, decide_true, decide_false, List.length, List.length_cons, List.length_nil, Nat.reduceAdd, Bool.and_self, Bool.and_true, and_true, true_and, numF] <;> try simp)) (by (simp only [setn, List.nil_append, List.cons_append, leF, leH_nil, leH_cons, leF_nil, lk, scp, scpL, scpO, resF, resH, resO, resV, resVL, nth, Nat.reduceBEq, Nat.reduceLT, decide_true, decide_false, List.length, List.length_cons, List.length_nil, Nat.reduceAdd, Bool.and_self, Bool.and_true, and_true, true_and, numF] <;> try simp); rfl)⟩⟩⟩, fun hk g1 => ⟨hcap, fun A3 c3 => ⟨((i + 1 : Nat) : Int), ArOk.to (by omega) (by omega) (by omega), fin x A3 c3 _ _ ?_ (by (simp only [setn, List.nil_append, List.cons_append, leF, leH_nil, leH_cons, leF_nil, lk, scp, scpL, scpO, resF, resH, resO, resV, resVL, nth, Nat.reduceBEq, Nat.reduceLT, decide_true, decide_false, List.length, List.length_cons, List.length_nil, Nat.reduceAdd, Bool.and_self, Bool.and_true, and_true, true_and, numF] <;> try simp)) (by (simp only [setn, List.nil_append, List.cons_append, leF, leH_nil, leH_cons, leF_nil, lk, scp, scpL, scpO, resF, resH, resO, resV, resVL, nth, Nat.reduceBEq, Nat.reduceLT, decide_true, decide_false, List.length, List.length_cons, List.length_nil, Nat.reduceAdd, Bool.and_self, Bool.and_true, and_true, true_and, numF] <;> try simp); rfl)⟩⟩⟩
   rotate_left
   ·have hm := of_decide_eq_false hm
    unfold adjI; rw [if_neg (by omega)]
   ·have hk : goK x = 0 := by simpa using hk
    unfold adjI; rw [if_neg (by simp [hk])]
   have hk : goK x ≠ 0 := by simpa using hk
   have hm := of_decide_eq_true hm
   have h0 := goK_imm hk
   refine loop_go (α := Nat) (fun k => k ≤ x.imm.toNat) (fun _ => ⟨w, w.heap.size, [], 56, []⟩) (fun k => { F := [(0, .val (.slice A l.length c)), (1, .val (.slice B l.length d)), (5, .own 0 0), (6, .val (.int .i64 (i : Int))), (7, .ptr 1 0), (8, .val (.int .i64 (goK x))), (9, .val (.int .i64 ((leftN (gB g) k : Nat) : Int))), (10, .val (.int .i64 (k : Int)))], H := [.own 41 0 5 A2 (dropTo (gB g) l i).length c2 (cellsI (dropTo (gB g) l i)), .cells gx 41 (In.sv x)] }) (fun k => x.imm.toNat - k) (fun _ => rfl) ?start2 ?round2
   case start2 =>
    intro a W rep
    exact ⟨0, Nat.zero_le _, rep.le (by (simp only [setn, List.nil_append, List.cons_append, leF, leH_nil, leH_cons, leF_nil, lk, scp, scpL, scpO, resF, resH, resO, resV, resVL, nth, Nat.reduceBEq, Nat.reduceLT, decide_true, decide_false, List.length, List.length_cons, List.length_nil, Nat.reduceAdd, Bool.and_self, Bool.and_true, and_true, true_and, numF] <;> try simp); rfl) (by simp only [In.sv]; (simp only [setn, List.nil_append, List.cons_append, leF, leH_nil, leH_cons, leF_nil, lk, scp, scpL, scpO, resF, resH, resO, resV, resVL, nth, Nat.reduceBEq, Nat.reduceLT, decide_true, decide_false, List.length, List.length_cons, List.length_nil, Nat.reduceAdd, Bool.and_self, Bool.and_true, and_true, true_and, numF] <;> try simp))⟩
   case round2 =>
    intro k hk2 I2 again2
    have hk2 : k ≤ x.imm.toNat := hk2
    have hlk := leftN_le (gB g) k
    (refine Y_go 600 ?_; dsimp only [In.sv, zq9x, t94n3, T94n3, zq9q, zq9p, Y_k, zq4t, zq8n, zq6m, Nat.reduceBEq, zq6k, zq6j, YK, zq8s, zq59, zq14, Nat.reduceAdd, zq5b, zq1o, nth, zq1k, List.length_cons, List.length_nil, dropL, takeL, zq19, zq18, zq4z, zq04, zq91, zq9a, zq0i, zq9d, zq9h, normF, zq6l, zq85, zq86, zq8b, zq8e, zq9r, zq6g, zq8w, YC, zq9o, t94n2, T94n2, zq9s, zq57, zq06, zq0w, zq1p, zq1d, List.nil_append, zq1b, zq52, zq0o, zq88, t94n0, T94n0, zq4v, zq8o, zq6p, zq0e, zqa0, t94n1, T94n1, zqa1, zq89, zq9t, popTo, zq6h, YP, t94n4, T94n4, zq5c, zq7t, zq72, zq0a, zq1x, zq1t, zq1r, splice, setn, zq8r, t94n7, T94n7, zq17, zq5g, List.map, repL, List.cons_append, zq23, Nat.reduceMul, zq7s, zq8k, zq8l, zq8j, zq20, zq24, zq26, zq5k, zq2v, zq09, zq08, zq2r, zq2q, zq2n, zq2j, zq2k, denL, den, zq2l, zq2h, t94n11, T94n11])
    refine ⟨fun h3 => ?_, fun h3 g1 => ⟨hcap, fun A3 c3 => ⟨((i + 1 : Nat) : Int), ArOk.to (by omega) (by omega) (by omega), fin { x with imm := (leftN (gB g) k : Nat) } A3 c3 _ _ ?_ (by (simp only [setn, List.nil_append, List.cons_append, leF, leH_nil, leH_cons, leF_nil, lk, scp, scpL, scpO, resF, resH, resO, resV, resVL, nth, Nat.reduceBEq, Nat.reduceLT, decide_true, decide_false, List.length, List.length_cons, List.length_nil, Nat.reduceAdd, Bool.and_self, Bool.and_true, and_true, true_and, numF] <;> try simp)) (by (simp only [setn, List.nil_append, List.cons_append, leF, leH_nil, leH_cons, leF_nil, lk, scp, scpL, scpO, resF, resH, resO, resV, resVL, nth, Nat.reduceBEq, Nat.reduceLT, decide_true, decide_false, List.length, List.length_cons, List.length_nil, Nat.reduceAdd, Bool.and_self, Bool.and_true, and_true, true_and, numF] <;> try simp); rfl)⟩⟩⟩
    ·have h3 : k < x.imm.toNat := by have := of_decide_eq_true h3; omega
     have hkl : k < l.length := by omega
     have hk1 : ((k : Nat) : Int).toNat = k := by omega
     rw [hk1]
     refine ⟨⟨by omega, by omega, gs hkl⟩, gB g k, gc hkl, fun hb2 => ⟨_, .add64 (by omega) (by omega), _, .add64 (by omega) (by omega), ?_⟩, fun hb2 => ⟨_, .add64 (by omega) (by omega), ?_⟩⟩
     all_goals refine lend_rule fun a W rep => again2 (k + 1) (by show k + 1 ≤ _; omega) (by show x.imm.toNat - (k + 1) < x.imm.toNat - k; omega) a W (rep.le ?_ (by simp only [In.sv]; (simp only [setn, List.nil_append, List.cons_append, leF, leH_nil, leH_cons, leF_nil, lk, scp, scpL, scpO, resF, resH, resO, resV, resVL, nth, Nat.reduceBEq, Nat.reduceLT, decide_true, decide_false, List.length, List.length_cons, List.length_nil, Nat.reduceAdd, Bool.and_self, Bool.and_true, and_true, true_and, numF] <;> try simp)))
     ·have : leftN (gB g) (k + 1) = leftN (gB g) k + 1 := by simp [leftN]; simpa using hb2
      rw [this]; (simp only [setn, List.nil_append, List.cons_append, leF, leH_nil, leH_cons, leF_nil, lk, scp, scpL, scpO, resF, resH, resO, resV, resVL, nth, Nat.reduceBEq, Nat.reduceLT, decide_true, decide_false, List.length, List.length_cons, List.length_nil, Nat.reduceAdd, Bool.and_self, Bool.and_true, and_true, true_and, numF] <;> try simp)
     ·have : leftN (gB g) (k + 1) = leftN (gB g) k := by simp [leftN]; simpa using hb2
      rw [this]; (simp only [setn, List.nil_append, List.cons_append, leF, leH_nil, leH_cons, leF_nil, lk, scp, scpL, scpO, resF, resH, resO, resV, resVL, nth, Nat.reduceBEq, Nat.reduceLT, decide_true, decide_false, List.length, List.length_cons, List.length_nil, Nat.reduceAdd, Bool.and_self, Bool.and_true, and_true, true_and, numF] <;> try simp)
    ·have h3 : k = x.imm.toNat := by have := of_decide_eq_false h3; omega
     subst h3
     unfold adjI; rw [if_pos ⟨hk, hm⟩]
end Go.Proofs.YtlbiogokpadaoaaGreatDoor
namespace Go.Proofs.YtlbiogokpadaoaaGreatDoor
open Go Go.Sx Go.Isa
set_option maxRecDepth 100000
theorem leftN_congr {g g' : Nat → Bool} : ∀ n, (∀ k, k < n → g k = g' k) → leftN g n = leftN g' n
 | 0, _ => rfl
 | n + 1, h => by simp only [leftN, leftN_congr n (fun k hk => h k (by omega)), h n (by omega)]
theorem adjI_congr {g g' : Nat → Bool} {n : Nat} (h : ∀ k, k < n → g k = g' k) (x : In) : adjI g n x = adjI g' n x := by
 unfold adjI
 split
 ·rename_i hx
  have h0 := goK_imm hx.1
  rw [leftN_congr _ fun k hk => h k (by omega)]
 ·rfl
theorem dropTo_congr {g g' : Nat → Bool} {l : List In} (h : ∀ k, k < l.length → g k = g' k) : ∀ i, i ≤ l.length → dropTo g l i = dropTo g' l i
 | 0, _ => rfl
 | i + 1, hi => by
  have hx : l[i]? = some (l[i]'(by omega)) := List.getElem?_eq_getElem (by omega)
  simp only [dropTo, dropTo_congr h i (by omega), hx, h i (by omega), adjI_congr h]
theorem dropP_congr {g g' : Nat → Bool} {l : List In} (h : ∀ k, k < l.length → g k = g' k) : dropP g l = dropP g' l := dropTo_congr h _ (Nat.le_refl _)
def gl (f : Nat → Bool) (n i : Nat) : List Bool := (List.range n).map fun k => decide (k < i) && f k
theorem gl_len (f : Nat → Bool) (n i : Nat) : (gl f n i).length = n := by simp [gl]
theorem gl_get (f : Nat → Bool) (n i k : Nat) (hk : k < n) : gB (gl f n i) k = (decide (k < i) && f k) := by
 simp [gB, gl, List.getD, hk]
theorem gl_zero (f : Nat → Bool) (n : Nat) : repN n [Value.bool false] = bV (gl f n 0) := by
 have : gl f n 0 = List.replicate n false := by
  refine List.ext_getElem (by simp [gl]) fun i h1 h2 => ?_
  simp [gl]
 rw [this, bV, List.map_replicate]
 clear this
 induction n with
 | zero => rfl
 | succ n ih => simp only [repN, List.replicate_succ, ih]; rfl
theorem bV_set {o : List Bool} {j : Nat} {b : Bool} : setn (bV o) j (.bool b) = bV (o.set j b) := by
 rw [setn_eq]; unfold bV; rw [List.map_set]
theorem gl_set (f : Nat → Bool) (n i : Nat) : setn (bV (gl f n i)) i (.bool (f i)) = bV (gl f n (i + 1)) := by
 rw [bV_set]
 congr 1
 refine List.ext_getElem (by simp [gl]) fun k h1 h2 => ?_
 rw [List.getElem_set]
 simp only [gl, List.getElem_map, List.getElem_range]
 split
 ·rename_i e; subst e; simp
 ·rename_i e
  have : decide (k < i + 1) = decide (k < i) := by rw [decide_eq_decide]; omega
  rw [this]
theorem drop_gl (f : Nat → Bool) (l : List In) : dropP (gB (gl f l.length l.length)) l = dropP f l :=
 dropP_congr fun k hk => by rw [gl_get _ _ _ _ hk]; simp [hk]
structure S63 where
 r : Nat
 m : List In
 A : Option Addr
 c : Nat
theorem skip63 (A : Option Addr) (c : Nat) (l : List In) (w : World) (hA : RowAt w A (cellsI l)) (hl : l.length ≤ 2000) :
  CallsV Tryz.prog 63 [.slice A l.length c] w fun v w' => World.ownsB w' w.heap.size 41 5 v (skipL l).length (cellsI (skipL l)) ∧ Fresh w w' := by
 refine calls_go (keep := K63) (nt := 49) (svs := [.val (.slice A l.length c)]) Tryz.func63 x63 n63 (by simp) (by simp [IsL, Is]) fun R hR => ?_
 (refine Y_go 600 ?_; dsimp only [X63, numF, Nat.reduceAdd, zq9q, zq9p, Y_k, zq4t, zq8o, zq6t, YK, zq8s, zq9h, normF, zq6m, Nat.reduceBEq, zq6k, zq6j, zq6l, zq85, zq86, zq9x, t63n11, T63n11, zq8n, zq9i])
 refine call_own (vs := [.slice A l.length c]) rfl (fun W hW => twin29 A c l W (hA.keep hW.fresh') (by omega)) fun A1 c1 => ?_
 (refine Y_go 600 ?_; dsimp only [List.length_nil, zq8s, List.nil_append, Y_k, zq4t, zq8n, zq6m, Nat.reduceBEq, zq6j, YK, zq9h, normF, zq6k, zq6l, zq85, zq8e, zq86, zq9x, t63n10, T63n10, zq9q, zq9p, zq8o, zq6p, zq9s, zq9u])
 refine loop_go (α := S63) (fun y => y.r ≤ l.length + 1 ∧ y.m = skipN y.r l) (fun _ => ⟨w, w.heap.size, [], 49, []⟩) (fun y => { F := [(0, .val (.slice A l.length c)), (3, .own 0 0), (4, .val (.int .i64 (y.r : Int)))], H := [.own 41 0 5 y.A y.m.length y.c (cellsI y.m)] }) (fun y => l.length + 1 - y.r) (fun _ => rfl) ?start ?round
 case start =>
  intro a W rep
  exact ⟨⟨0, l, A1, c1⟩, ⟨Nat.zero_le _, rfl⟩, rep.le (by (simp only [setn, List.nil_append, List.cons_append, leF, leH_nil, leH_cons, leF_nil, lk, scp, scpL, scpO, resF, resH, resO, resV, resVL, nth, Nat.reduceBEq, Nat.reduceLT, decide_true, decide_false, List.length, List.length_cons, List.length_nil, Nat.reduceAdd, Bool.and_self, Bool.and_true, and_true, true_and, numF] <;> try simp)) (by (simp only [setn, List.nil_append, List.cons_append, leF, leH_nil, leH_cons, leF_nil, lk, scp, scpL, scpO, resF, resH, resO, resV, resVL, nth, Nat.reduceBEq, Nat.reduceLT, decide_true, decide_false, List.length, List.length_cons, List.length_nil, Nat.reduceAdd, Bool.and_self, Bool.and_true, and_true, true_and, numF] <;> try simp))⟩
 case round =>
  rintro ⟨r, m, A2, c2⟩ ⟨hr, hm⟩ I again
  have hr : r ≤ l.length + 1 := hr
  have hm : m = skipN r l := hm
  have hml : m.length ≤ l.length := by rw [hm]; exact skipN_len _ _
  (refine Y_go 600 ?_; dsimp only [zq9x, t63n8, T63n8, zq9q, zq9p, Y_k, zq4t, zq8n, zq6m, Nat.reduceBEq, zq6k, zq6j, YK, zq8s, zq54, zq0r, zq4z, zq04, zq91, zq9a, zq0i, zq9e, zq9h, normF, zq6l, zq85, zq86, zq8e, zq9r, zq6g, zq8w, YC, zq9o, t63n7, T63n7, zq9s, zq0t, nth, zq09, zq08, zq0q, zq66, zq06, zq4s, List.length_cons, List.length_nil, Nat.reduceAdd, List.cons_append, List.nil_append, zq88, t63n5, T63n5, zq8o, zq6p, zq9u, zq9t, popTo, zq6h, YP, t63n9, T63n9, zq89, zq9w])
  refine ⟨fun hlt => ?_, fun hge => ?_⟩
  rotate_left
  ·have hrl : r = l.length + 1 := by have := of_decide_eq_false hge; omega
   subst hrl
   refine ret_rule (vs := [_]) r63 rfl rfl fun W hW => hR _ _ ⟨?_, hW.fresh'⟩
   have := hW.owns (i := 0) rfl
   rw [← skipL_of (n := l.length + 1) (by omega), ← hm]
   exact this
  have hlt : r ≤ l.length := by have := of_decide_eq_true hlt; omega
  have hn1 : ((m.length : Nat) : Int).toNat = m.length := by omega
  refine ⟨⟨by omega, by omega, by omega, by omega⟩, fun g => ?_⟩
  rw [hn1, gl_zero (skipB m)]
  refine loop_go (α := Nat) (fun i => i ≤ m.length) (fun _ => ⟨w, w.heap.size, [], 49, []⟩) (fun i => { F := [(0, .val (.slice A l.length c)), (3, .own 0 0), (4, .val (.int .i64 (r : Int))), (5, .own 1 0), (6, .val (.int .i64 (i : Int)))], H := [.own 41 0 5 A2 m.length c2 (cellsI m), .own 4 0 1 (some ⟨g, 0, none⟩) m.length m.length (bV (gl (skipB m) m.length i))] }) (fun i => m.length - i) (fun _ => rfl) ?start2 ?round2
  case start2 =>
   intro a W rep
   exact ⟨0, Nat.zero_le _, rep.le (by (simp only [setn, List.nil_append, List.cons_append, leF, leH_nil, leH_cons, leF_nil, lk, scp, scpL, scpO, resF, resH, resO, resV, resVL, nth, Nat.reduceBEq, Nat.reduceLT, decide_true, decide_false, List.length, List.length_cons, List.length_nil, Nat.reduceAdd, Bool.and_self, Bool.and_true, and_true, true_and, numF] <;> try simp)) (by (simp only [setn, List.nil_append, List.cons_append, leF, leH_nil, leH_cons, leF_nil, lk, scp, scpL, scpO, resF, resH, resO, resV, resVL, nth, Nat.reduceBEq, Nat.reduceLT, decide_true, decide_false, List.length, List.length_cons, List.length_nil, Nat.reduceAdd, Bool.and_self, Bool.and_true, and_true, true_and, numF] <;> try simp))⟩
  case round2 =>
   intro i hi I2 again2
   have hi : i ≤ m.length := hi
   (refine Y_go 600 ?_; dsimp only [zq9x, t63n3, T63n3, zq9q, zq9p, Y_k, zq4t, zq8n, zq6m, Nat.reduceBEq, zq6k, zq6j, YK, zq8s, zq54, zq0t, nth, zq09, zq08, zq0q, zq4z, zq04, zq91, zq9a, zq0i, zq9d, zq9h, normF, zq6l, zq86, zq85, zq8e, zq9r, zq6g, zq8w, YC, zq9o, t63n2, T63n2, zq9s, zq57, zq06, zq0y, zq0v, zq5b, zq1q, zq1n, zq1c, List.nil_append, List.cons_append, zq1b, zq17, zq9i, zq9t, popTo, zq6h, YP, t63n4, T63n4])
   refine ⟨fun hlt => ?_, fun hge => ?_⟩
   ·have hlt : i < m.length := by have := of_decide_eq_true hlt; omega
    have hi1 : ((i : Nat) : Int).toNat = i := by omega
    have hx : m[i]? = some m[i] := List.getElem?_eq_getElem hlt
    have cl : ∀ k v, k < 5 → (m[i]).cells[k]? = some v → (cellsI m)[i * 5 + k]? = some v := fun k v hk hv => by rw [cellsI_get m hlt hk]; exact hv
    generalize m[i] = x at hx cl
    rw [hi1]
    refine ⟨⟨by omega, by omega⟩, x.op, cl 0 _ (by omega) rfl, x.a, cl 1 _ (by omega) rfl, x.b, cl 2 _ (by omega) rfl, x.c, cl 3 _ (by omega) rfl, x.imm, cl 4 _ (by omega) rfl, ?_⟩
    refine call_val (vs := [In.val x]) rfl (fun W hW => goes93 x W) fun v hv => ⟨.val (.int .i64 (goK x)), by rw [hv]; simp [Is], ?_⟩
    have hgs : ∀ b, skipB m i = b → setn (bV (gl (skipB m) m.length i)) i (.bool b) = bV (gl (skipB m) m.length (i + 1)) := fun b hb => by rw [← hb]; exact gl_set _ _ _
    have hsk : skipB m i = decide (goK x = 1 ∧ x.imm = (i : Int) + 1) := by unfold skipB; rw [hx]
    (refine Y_go 600 ?_; dsimp only [zq8s, Y_k, zq4t, zq8n, zq6m, Nat.reduceBEq, zq6j, YK, zq9h, normF, zq6k, zq6l, zq88, zq85, zq86, zq8e, zq9x, t63n0, T63n0, zq9p, zq4z, zq8o, zq6p, zq04, zq91, zq9a, zq0i, zq9b, Y_gk, zq6c, YR, zq68, zq57, zq06, zq0y, nth, zq09, zq08, zq0v, zq59, zq15, zq13, zq5b, zq1q, zq1n, zq1c, List.nil_append, zq1b, zq18, zq4v, zq0e, zq4u, zq6o, zq0b, zq5c, zq7t, zq7f, zq0a, zq1y, zq1w, denL, den, zq1v, splice, setn, zq8r, zqa0, t63n1, T63n1, zqa1, YS, zq6a, zq0c, zq7v, zq7h])
    rw [hi1, Nat.mul_one]
    have nxt : ∀ b, skipB m i = b → ∀ F, leF 2 F [(0, .val (.slice A l.length c)), (3, .own 0 0), (4, .val (.int .i64 (r : Int))), (5, .own 1 0), (6, .val (.int .i64 ((i + 1 : Nat) : Int)))] → G (cxOf Tryz.prog Tryz.f63 K63 T63 R) ⟨w, w.heap.size, [], 49, []⟩ [.lend I2, .blk 2, .code (.ref 4), .blk 1, .code (.ref 6), .lend I, .blk 0, .code (.ref 9)] { F := F, H := [.own 41 0 5 A2 m.length c2 (cellsI m), .own 4 0 1 (some ⟨g, 0, none⟩) m.length m.length (setn (bV (gl (skipB m) m.length i)) i (.bool b))] } := fun b hb F hF =>
     lend_rule fun a W rep => again2 (i + 1) (by show i + 1 ≤ _; omega) (by show m.length - (i + 1) < m.length - i; omega) a W (rep.le hF (by rw [hgs b hb]; (simp only [setn, List.nil_append, List.cons_append, leF, leH_nil, leH_cons, leF_nil, lk, scp, scpL, scpO, resF, resH, resO, resV, resVL, nth, Nat.reduceBEq, Nat.reduceLT, decide_true, decide_false, List.length, List.length_cons, List.length_nil, Nat.reduceAdd, Bool.and_self, Bool.and_true, and_true, true_and, numF] <;> try simp)))
    have hbl : i + 1 ≤ (bV (gl (skipB m) m.length i)).length := by rw [bV_len, gl_len]; omega
    refine ⟨fun h1 => ⟨⟨by omega, by omega⟩, x.imm, cl 4 _ (by omega) rfl, ((i : Int) + 1), .add64 (by omega) (by omega), ⟨by omega, by omega⟩, hbl, ((i + 1 : Nat) : Int), ArOk.to (by omega) (by omega) (by omega), nxt _ ?_ _ (by (simp only [setn, List.nil_append, List.cons_append, leF, leH_nil, leH_cons, leF_nil, lk, scp, scpL, scpO, resF, resH, resO, resV, resVL, nth, Nat.reduceBEq, Nat.reduceLT, decide_true, decide_false, List.length, List.length_cons, List.length_nil, Nat.reduceAdd, Bool.and_self, Bool.and_true, and_true, true_and, numF] <;> try simp))⟩, fun h1 => ⟨⟨by omega, by omega⟩, hbl, ((i + 1 : Nat) : Int), ArOk.to (by omega) (by omega) (by omega), nxt _ ?_ _ (by (simp only [setn, List.nil_append, List.cons_append, leF, leH_nil, leH_cons, leF_nil, lk, scp, scpL, scpO, resF, resH, resO, resV, resVL, nth, Nat.reduceBEq, Nat.reduceLT, decide_true, decide_false, List.length, List.length_cons, List.length_nil, Nat.reduceAdd, Bool.and_self, Bool.and_true, and_true, true_and, numF] <;> try simp))⟩⟩
    ·have h1 : goK x = 1 := by simpa using h1
     rw [hsk, Bool.eq_iff_iff]; simp [h1]
    ·have h1 : goK x ≠ 1 := by simpa using h1
     rw [hsk]; simp [h1]
   ·have hil : i = m.length := by have := of_decide_eq_false hge; omega
    subst hil
    refine call_own (vs := [.slice A2 m.length c2, .slice (some ⟨g, 0, none⟩) m.length m.length]) rfl (fun W hW => drop94 A2 (some ⟨g, 0, none⟩) c2 m.length m (gl (skipB m) m.length m.length) W (hW.rowAt (i := 0) rfl) (hW.rowAt (i := 1) rfl) (by omega) (gl_len _ _ _)) fun A3 c3 => ?_
    rw [drop_gl]
    (refine Y_go 600 ?_; dsimp only [List.length_cons, List.length_nil, Nat.reduceAdd, zq8s, List.cons_append, List.nil_append, Y_k, zq4t, zq8n, zq6m, Nat.reduceBEq, zq6j, YK, zq9h, normF, zq6k, zq6l, zq89, zq85, zq86, zq8e, zqa0, zq9x, t63n6, T63n6, zq9p, zq4v, zq8o, zq6p, zq04, zq91, zq9a, zq0e, zqa1])
    refine ⟨((r + 1 : Nat) : Int), ArOk.to (by omega) (by omega) (by omega), lend_rule fun a W rep => again ⟨r + 1, skip1 m, A3, c3⟩ ⟨by show r + 1 ≤ _; omega, ?_⟩ (by show l.length + 1 - (r + 1) < l.length + 1 - r; omega) a W ((rep.pick [2] (by decide)).le (by (simp only [renF, renV, renVL, renO, pickH, pickE, posOf, setn, List.nil_append, List.cons_append, leF, leH_nil, leH_cons, leF_nil, lk, scp, scpL, scpO, resF, resH, resO, resV, resVL, nth, Nat.reduceBEq, Nat.reduceLT, decide_true, decide_false, List.length, List.length_cons, List.length_nil, Nat.reduceAdd, Bool.and_self, Bool.and_true, and_true, true_and, numF] <;> try simp)) (by (simp only [renF, renV, renVL, renO, pickH, pickE, posOf, setn, List.nil_append, List.cons_append, leF, leH_nil, leH_cons, leF_nil, lk, scp, scpL, scpO, resF, resH, resO, resV, resVL, nth, Nat.reduceBEq, Nat.reduceLT, decide_true, decide_false, List.length, List.length_cons, List.length_nil, Nat.reduceAdd, Bool.and_self, Bool.and_true, and_true, true_and, numF] <;> try simp); exact ⟨rfl, rfl⟩))⟩
    show skip1 m = skipN (r + 1) l
    rw [hm, skipN_succ']
end Go.Proofs.YtlbiogokpadaoaaGreatDoor
