/- LintLooks: the statement, walked. -/
import Derived.Test.YtgghmmjoplddbaaDoorDRfLook
import Derived.Test.YtgghmmjoplddbaaDoorSxGhost
import Derived.Test.YtgghmmjoplddbaaDoorDBgCodeLk
set_option linter.unusedSimpArgs false
set_option linter.unusedVariables false
set_option linter.unnecessarySimpa false
namespace Go.Proofs.YtgghmmjoplddbaaDoor
open Go Go.Sx Go.Isa Go.Lint
set_option maxRecDepth 100000
def LookP (l : List In) (fs : List (Int × Int)) (e : Int) : Prop := (l.length ≤ 1024 → FoundOk l fs ∧ e = 0) ∧ (1024 < l.length → fs = [] ∧ e = 2)
theorem LookP.uniq {l : List In} {fs gs : List (Int × Int)} {e f : Int} (h : LookP l fs e) (k : LookP l gs f) : fs = gs ∧ e = f := by
 by_cases hl : l.length ≤ 1024
 ·exact ⟨(h.1 hl).1.uniq (k.1 hl).1, by rw [(h.1 hl).2, (k.1 hl).2]⟩
 ·have hl : 1024 < l.length := by omega
  exact ⟨by rw [(h.2 hl).1, (k.2 hl).1], by rw [(h.2 hl).2, (k.2 hl).2]⟩
def LookOk (f : Nat) (l : List In) : Prop := ∀ (B : Option Addr) (bc : Nat) (w : World), RowAt w B (cellsI l) → ShAt w → CallsV Tryd.prog f [.slice B l.length bc] w fun v w' => ∃ (A : Option Addr) (c : Nat) (fs : List (Int × Int)) (e : Int), LookP l fs e ∧ v = .tuple #[.slice A fs.length c, .int .i64 e] ∧ World.ownsB w' w.heap.size 73 2 (.slice A fs.length c) fs.length (fsV fs) ∧ Fresh w w'
theorem look12_big (n : Nat) (B : Option Addr) (bc : Nat) (w : World) (hn : 1024 < n) : CallsV Tryd.prog 12 [.slice B n bc] w fun v w' => v = .tuple #[.slice none 0 0, .int .i64 2] ∧ Fresh w w' := by
 refine calls_go (keep := K12) (nt := 239) (svs := [.val (.slice B n bc)]) Tryd.func12 x12 n12 (by simp) (by simp [IsL, Is]) fun R hR => ?_
 (refine Y_go 600 ?_; dsimp only [X12, numF, Nat.reduceAdd, zq9q, zq9p, Y_k, zq4t, zq8o, zq6t, YK, zq8s, zq6p, zq9h, normF, zq6m, Nat.reduceBEq, zq6k, zq6j, zq6l, zq85, zq86, zq9x])
 refine ⟨fun _ => ?_, fun h => absurd (of_decide_eq_false h) (by omega)⟩
 exact ret_rule (vs := [_, _]) r12 rfl rfl fun W hW => hR _ _ ⟨rfl, hW.fresh'⟩
theorem lookOk11 (l : List In) : LookOk 11 l := by
 intro B bc w hB hG
 by_cases hl : l.length ≤ 1024
 ·refine (look22F l B bc w hl hB hG).mono fun v w' h => ?_
  obtain ⟨A, c, fs, h1, h2, h3, h4⟩ := h
  exact ⟨A, c, fs, 0, ⟨fun _ => ⟨h1, rfl⟩, fun h => absurd hl (by omega)⟩, h2, h3, h4⟩
 ·refine (look22_big l.length B bc w (by omega)).mono fun v w' h => ?_
  exact ⟨none, 0, [], 2, ⟨fun h => absurd h hl, fun _ => ⟨rfl, rfl⟩⟩, h.1, ownsB_nil _ _ _ _, h.2⟩
theorem lookOk12 (l : List In) : LookOk 12 l := by
 intro B bc w hB hG
 by_cases hl : l.length ≤ 1024
 ·refine (look95 l B bc w hl hB hG).mono fun v w' h => ?_
  obtain ⟨A, c, fs, h1, h2, h3, h4⟩ := h
  exact ⟨A, c, fs, 0, ⟨fun _ => ⟨h1, rfl⟩, fun h => absurd hl (by omega)⟩, h2, h3, h4⟩
 ·refine (look12_big l.length B bc w (by omega)).mono fun v w' h => ?_
  exact ⟨none, 0, [], 2, ⟨fun h => absurd h hl, fun _ => ⟨rfl, rfl⟩⟩, h.1, ownsB_nil _ _ _ _, h.2⟩
theorem fsV_len2 (l : List (Int × Int)) : (fsV l).length = l.length * 2 := by
 induction l with
 | nil => rfl
 | cons x l ih => simp only [fsV, List.flatMap_cons, List.length_append, List.length_cons, List.length_nil] at *; omega
theorem same13 (A B : Option Addr) (c d : Nat) (fs : List (Int × Int)) (w : World) (hA : RowAt w A (fsV fs)) (hB : RowAt w B (fsV fs)) (hl : fs.length ≤ maxLen) :
  CallsV Tryd.prog 13 [.slice A fs.length c, .slice B fs.length d] w fun v w' => v = .bool true ∧ Fresh w w' := by
 refine calls_go (keep := K13) (nt := 26) (svs := [.val (.slice A fs.length c), .val (.slice B fs.length d)]) Tryd.func13 x13 n13 (by simp) (by simp [IsL, Is]) fun R hR => ?_
 simp only [maxLen] at hl
 (refine Y_go 600 ?_; dsimp only [X13, numF, Nat.reduceAdd, zq9q, zq9p, Y_k, zq4t, zq8o, zq6o, YK, zq8s, zq9h, normF, zq6m, Nat.reduceBEq, zq6k, zq6j, zq6l, zq85, zq89, zq86, zq9x, t13n7, T13n7, zq8n, zq54, zq0r, zq4z, zq04, zq91, zq9a, zq0i, zq9c, zq9r, zq6g, zq8w, YC, t13n0, T13n0, zq88, zq9w, zq9o, t13n6, T13n6, zq6p, zq9s, zq9u])
 refine ⟨fun h => absurd h (by simp), fun _ => ?_⟩
 refine loop_go (α := Nat) (fun i => i ≤ fs.length) (fun _ => ⟨w, w.heap.size, [], 26, []⟩) (fun i => { F := [(0, .val (.slice A fs.length c)), (1, .val (.slice B fs.length d)), (5, .val (.int .i64 (i : Int)))], H := [] }) (fun i => fs.length - i) (fun _ => rfl) ?start ?round
 case start =>
  intro a W rep
  exact ⟨0, Nat.zero_le _, rep.le (by (simp only [setn, List.nil_append, List.cons_append, leF, leH_nil, leH_cons, leF_nil, lk, scp, scpL, scpO, resF, resH, resO, resV, resVL, nth, Nat.reduceBEq, Nat.reduceLT, decide_true, decide_false, List.length, List.length_cons, List.length_nil, Nat.reduceAdd, Bool.and_self, Bool.and_true, and_true, true_and, numF] <;> try simp)) (by (simp only [setn, List.nil_append, List.cons_append, leF, leH_nil, leH_cons, leF_nil, lk, scp, scpL, scpO, resF, resH, resO, resV, resVL, nth, Nat.reduceBEq, Nat.reduceLT, decide_true, decide_false, List.length, List.length_cons, List.length_nil, Nat.reduceAdd, Bool.and_self, Bool.and_true, and_true, true_and, numF] <;> try simp))⟩
 case round =>
  intro i hi I again
  have hi : i ≤ fs.length := hi
  (refine Y_go 600 ?_; dsimp only [zq9x, t13n4, T13n4, zq9q, zq9p, Y_k, zq4t, zq8n, zq6m, Nat.reduceBEq, zq6k, zq6j, YK, zq8s, zq54, zq0r, zq4z, zq04, zq91, zq9a, zq0i, zq9d, zq9h, normF, zq6l, zq85, zq86, zq9r, zq6g, zq8w, YC, zq9o, t13n3, T13n3, zq9s, zq57, zq06, zq0w, zq5b, zq1p, zq1c, List.nil_append, List.cons_append, zq1b, zq17, zq5r, zq3n, eqSV, zq3o, zq88, t13n1, T13n1, zq8o, zq6o, zq89, zq9w, zqa0, t13n2, T13n2, zq4v, zq6p, zq0e, zqa1, zq9t, popTo, zq6h, YP, t13n5, T13n5, zq6n])
  refine ⟨fun hlt => ?_, fun hge => ?_⟩
  ·have hil : i < fs.length := by have := of_decide_eq_true hlt; omega
   have hx : fs[i]? = some fs[i] := List.getElem?_eq_getElem hil
   generalize fs[i] = x at hx
   have hc := fsV_get fs i _ hx
   have hi1 : ((i : Nat) : Int).toNat = i := by omega
   have sA : A.isSome = true := hA.isSome (j := i * 2) (by rw [fsV_len2]; omega)
   have sB : B.isSome = true := hB.isSome (j := i * 2) (by rw [fsV_len2]; omega)
   rw [hi1]
   refine ⟨⟨by omega, by omega, sA⟩, x.1, hA.cell hc.1, x.2, hA.cell hc.2, ⟨by omega, by omega, sB⟩, x.1, hB.cell hc.1, x.2, hB.cell hc.2, fun h => absurd h (by simp), fun _ => ⟨((i + 1 : Nat) : Int), ArOk.to (by omega) (by omega) (by omega), lend_rule fun a W rep => again (i + 1) (by show i + 1 ≤ _; omega) (by show fs.length - (i + 1) < fs.length - i; omega) a W (rep.le (by (simp only [setn, List.nil_append, List.cons_append, leF, leH_nil, leH_cons, leF_nil, lk, scp, scpL, scpO, resF, resH, resO, resV, resVL, nth, Nat.reduceBEq, Nat.reduceLT, decide_true, decide_false, List.length, List.length_cons, List.length_nil, Nat.reduceAdd, Bool.and_self, Bool.and_true, and_true, true_and, numF] <;> try simp)) (by (simp only [setn, List.nil_append, List.cons_append, leF, leH_nil, leH_cons, leF_nil, lk, scp, scpL, scpO, resF, resH, resO, resV, resVL, nth, Nat.reduceBEq, Nat.reduceLT, decide_true, decide_false, List.length, List.length_cons, List.length_nil, Nat.reduceAdd, Bool.and_self, Bool.and_true, and_true, true_and, numF] <;> try simp)))⟩⟩
  ·exact ret_rule (vs := [_]) r13 rfl rfl fun W hW => hR _ _ ⟨rfl, hW.fresh'⟩
end Go.Proofs.YtgghmmjoplddbaaDoor
namespace Go.Proofs.YtgghmmjoplddbaaDoor
open Go Go.Sx Go.Isa Go.Lint
set_option maxRecDepth 100000
theorem lookCall {f : Nat} {C : Cx} (hC : C.P = Tryd.prog) {l : List In} {A : Option Addr} {c : Nat} (hf : LookOk f l)
  {E : Env} {s : SS} {args : List Operand} (hargs : denL s.H (evL s.F args) = some [.slice A l.length c]) (hG : ∀ W, HeapOk E s.H W → ShAt W) (hA : ∀ W, HeapOk E s.H W → RowAt W A (cellsI l)) {d : Option Nat} {ops : List XS} {k : List KI}
  (good : ∀ B cc fs e, LookP l fs e → fs.length ≤ maxLen → G C E (.ops ops :: k) { F := putF s.F d (.tup [.own s.H.length 0, .val (.int .i64 e)]), H := s.H ++ [.own 73 0 2 B fs.length cc (fsV fs)] }) :
  G C E (.ops ({ dst := d, guard := none, i := .call f args } :: ops) :: k) s := by
 refine call_rule hargs (fun W hW => by rw [hC]; exact hf A c W (hA W hW) (hG W hW)) fun W v W' hW hr => ?_
 obtain ⟨A1, c1, fs, e, hp, rfl, hs, hk⟩ := hr
 have hfl : fs.length ≤ maxLen := by
  obtain ⟨_, ⟨_, _, h0, _⟩ | ⟨g, b, cap, cur, _, _, _, h1, h2, _⟩⟩ := hs
  ·rw [h0]; exact Nat.zero_le _
  ·exact Nat.le_trans h1 h2
 obtain ⟨B, cc, e1, hx, hh, hi⟩ := hW.gain hs hk
 injection e1 with e3 _ e4
 subst e3; subst e4
 exact ⟨_, _, by simp only [Is, IsL]; exact ⟨_, ⟨_, _, by simpa only [Is] using hi, ⟨_, _, rfl, rfl, rfl⟩, rfl⟩, rfl⟩, hx, hh, good _ _ fs e hp hfl⟩
def j77 : In := ⟨77, 0, 0, 0, 0⟩
theorem law4 (A : Option Addr) (c : Nat) (l : List In) (w : World) (hG : ShAt w) (hA : RowAt w A (cellsI l)) :
  CallsV Tryd.prog 4 [.slice A l.length c] w fun v w' => Fresh w w' ∧ v = .bool true := by
 refine calls_go (keep := K4) (nt := 71) (svs := [.val (.slice A l.length c)]) Tryd.func4 x4 n4 (by simp) (by simp [IsL, Is]) fun R hR => ?_
 (refine Y_go 600 ?_; dsimp only [X4, numF, Nat.reduceAdd, zq9q, zq9p, Y_k, zq4t, zq8o, zq6o, YK, zq8s, zq9h, normF, zq6m, Nat.reduceBEq, zq6k, zq6j, zq6l, zq85, zq89, zq86, zq9x, t4n15, T4n15, zq8n, zq54, zq0r, zq4z, zq6p, zq04, zq91, zq9a, zq0i, zq9f, zq9r, zq6g, zq8w, YC, t4n0, T4n0, zq6n, zq88, zq9w, zq9o, t4n14, T4n14, zq6t, t4n13, T4n13, zq5k, zq2u, zq2q, zq2o, zq2g, List.length_nil, List.nil_append, zq5f, List.map, zq21, zq7t, zq72, zq0a, dropL, takeL, zq20, splice, setn, zq22, zq25, zq5g, repL, List.cons_append, zq23, Nat.reduceMul, zq7s, List.length_cons, zq8k, zq8l, zq8j, zq24, zq26, zq2v, nth, zq09, zq08, zq2r, zq2n, zq2j, zq2k, denL, den, zq2l, zq2h, zq8e, t4n12, T4n12, zq5n, zq39, zq38, zq06, zq36, zq3h, zq3c, zq96, Int.reduceToNat, zq9i])
 have done : ∀ F H, denAll H F [2] = some [.bool true] → RetG (cxOf Tryd.prog Tryd.f4 K4 T4 R) ⟨w, w.heap.size, [], 71, []⟩ { F := F, H := H } := fun F H hd =>
  ret_rule (vs := [.bool true]) r4 rfl hd fun W hW => hR _ _ ⟨hW.fresh', rfl⟩
 refine ⟨fun h1 => done _ _ rfl, fun h1 => ?_⟩
 have hl : l.length ≤ 1100 := by have := of_decide_eq_false h1; omega
 have hrd := hA.rd (nt := 71) (oneI l)
 rw [cellsI_len] at hrd
 refine ⟨_, hrd, ⟨by simp only [maxLen]; omega, by omega⟩, fun A1 c1 => ?_⟩
 intro g
 refine ⟨⟨by simp only [maxLen]; omega, by omega⟩, fun A2 c2 => ⟨⟨by omega, by omega, by omega⟩, ?_⟩⟩
 have hap : cellsI l ++ [.int .i64 77, .int .i64 0, .int .i64 0, .int .i64 0, .int .i64 0] = cellsI (l ++ [j77]) := by rw [cellsI_app]; rfl
 rw [hap]
 have hln : ((l.length : Nat) : Int).toNat = l.length := by omega
 rw [hln, Nat.sub_zero, Nat.sub_zero]
 have hown : ∀ {b : World} {H : List SO} {W : World}, HeapOk ⟨b, b.heap.size, [], 71, []⟩ (.own 37 1 5 A2 (l.length + 1) c2 (cellsI (l ++ [j77])) :: H) W → RowAt W A2 (cellsI l) := fun hW => by
  have := hW.rowAt (i := 0) rfl
  rw [cellsI_app] at this; exact this.pre
 refine lookCall rfl (lookOk11 l) (A := A2) (c := c2) rfl (fun W hW => hG.keep hW.fresh') (fun W hW => hown hW) fun A3 c3 fs e hp hfl => ?_
 (refine Y_go 600 ?_; dsimp only [List.length_cons, List.length_nil, Nat.reduceAdd, zq8s, List.cons_append, List.nil_append, Y_k, zq4t, zq8n, zq6m, Nat.reduceBEq, zq6j, YK, zq5i, zq2f, nth, zq2e, zq6k, zq9h, normF, zq6l, zq85, zq89, zq86, zq8e, zq9x, t4n11, T4n11, zq9q, zq9p, zq9i])
 refine lookCall rfl (lookOk12 l) (A := A) (c := c) rfl (fun W hW => hG.keep hW.fresh') (fun W hW => hA.keep hW.fresh') fun A4 c4 gs f hq hgl => ?_
 obtain ⟨rfl, rfl⟩ := hp.uniq hq
 have g77 : ∀ ys : List In, ys.length = l.length → (cellsI (ys ++ [j77]))[l.length * 5]? = some (.int .i64 77) := fun ys hy => by
  rw [cellsI_app, List.getElem?_append_right (by rw [cellsI_len, hy]; exact Nat.le_refl _), cellsI_len, hy, Nat.sub_self]; rfl
 (refine Y_go 600 ?_; dsimp only [List.length_cons, List.length_nil, Nat.reduceAdd, zq8s, List.cons_append, List.nil_append, Y_k, zq4t, zq8n, zq6m, Nat.reduceBEq, zq6j, YK, zq5i, zq2f, nth, zq2e, zq6k, zq9h, normF, zq6l, zq85, zq89, zq86, zq8e, zq9x, t4n10, T4n10, zq9q, zq9p, zq4z, zq04, zq91, zq9a, zq0i, zq9c, Y_gk, zq6d, YS, zq69, zq9k, zq4u, zq8o, zq6n, zq0b, zq88, zq9r, zq6e, YC, t4n1, T4n1, zq6o, zq9w, YR, zq6b, YG])
 refine ⟨fun h => absurd h (by simp), fun _ => ?_⟩
 refine call_val (vs := [.slice A3 fs.length c3, .slice A4 fs.length c4]) (R := fun v => v = .bool true) rfl (fun W hW => same13 A3 A4 c3 c4 fs W (hW.rowAt (i := 2) rfl) (hW.rowAt (i := 3) rfl) hfl) (fun v hv => ⟨.bt, by simpa [Is] using hv, ?_⟩)
 (refine Y_go 600 ?_; dsimp only [zq8s, Y_gk, zq6m, Nat.reduceBEq, zq6k, zq6j, zq6b, YR, zq52, zq8n, zq0m, YK, Y_k, zq4u, zq8o, zq6n, zq0c, zq4t, zq54, zq0r, zq57, zq06, zq0y, nth, zq09, zq08, zq0v, zq59, zq15, Nat.add_zero, zq13, zq5b, zq1q, zq1n, zq1c, List.nil_append, zq1b, zq18, zq4z, zq6p, zq04, zq91, zq9a, zq0i, zq9c, zq9h, normF, zq6l, zq85, zq86, zq89, zq8e, zq9r, zq6g, zq8w, YC, zq9x, t4n1, T4n1, zq9q, zq9p, zq6o, zq88, zq9w, zq9o, t4n9, T4n9, zq9s, zq9u])
 refine ⟨⟨by omega, by omega⟩, 77, by rw [hln]; exact g77 l rfl, fun h => absurd h (by decide), fun _ => ?_⟩
 refine loop_go (α := Nat × List In) (fun x => x.1 ≤ l.length ∧ x.2.length = l.length ∧ ∀ k, x.1 ≤ k → x.2[k]? = l[k]?) (fun _ => ⟨w, w.heap.size, [], 71, []⟩)
  (fun x => { F := [(0, .val (.slice A l.length c)), (3, .own 0 1), (4, .own 2 0), (6, .own 3 0), (50, .val (.int .i64 l.length)), (51, .val (.int .i64 (x.1 : Int)))], H := [.own 37 1 5 A2 (l.length + 1) c2 (cellsI (x.2 ++ [j77])), .cells g 37 [.val (.int .i64 77), .val (.int .i64 0), .val (.int .i64 0), .val (.int .i64 0), .val (.int .i64 0)], .own 73 0 2 A3 fs.length c3 (fsV fs), .own 73 0 2 A4 fs.length c4 (fsV fs)] }) (fun x => l.length - x.1) (fun _ => rfl) ?start ?round
 case start =>
  intro a W rep
  refine ⟨(0, l), ⟨Nat.zero_le _, rfl, fun _ _ => rfl⟩, rep.le ?_ ?_⟩ <;> (simp only [setn, List.nil_append, List.cons_append, leF, leH_nil, leH_cons, leF_nil, lk, scp, scpL, scpO, resF, resH, resO, resV, resVL, nth, Nat.reduceBEq, Nat.reduceLT, decide_true, decide_false, List.length, List.length_cons, List.length_nil, Nat.reduceAdd, Bool.and_self, Bool.and_true, and_true, true_and, numF] <;> try simp)
 case round =>
  rintro ⟨i, ys⟩ ⟨hi, hy, hyk⟩ I again
  have hi : i ≤ l.length := hi
  have hy : ys.length = l.length := hy
  have hyk : ∀ k, i ≤ k → ys[k]? = l[k]? := hyk
  (refine Y_go 600 ?_; dsimp only [zq9x, t4n7, T4n7, zq9q, zq9p, Y_k, zq4z, zq8n, zq6m, Nat.reduceBEq, zq6k, zq6j, zq04, zq91, zq9a, zq0i, zq9d, YK, zq8s, zq9h, normF, zq6l, zq85, zq86, zq8e, t4n6, T4n6, zq9r, zq6g, zq8w, YC, zq9o, t4n5, T4n5, zq9s, zq4t, zq88, t4n4, T4n4, zq57, zq06, zq0y, nth, zq09, zq08, zq0v, zq5b, zq1q, zq1n, zq1c, List.nil_append, List.cons_append, zq1b, zq17, zq0w, zq1p, zq5r, zq3n, eqSV, zq3o, t4n2, T4n2, zq8o, zq6o, zq89, zq9w, t4n3, T4n3, zq59, zq15, Nat.add_zero, zq13, zq5c, zq6p, zq7t, zq72, zq0a, zq1y, zq1w, denL, den, zq1v, splice, setn, zq8r, zqa0, zq4v, zq0e, zqa1, zq9t, popTo, zq6h, YP, t4n8, T4n8, zq9i])
  refine ⟨fun hlt => ?_, fun hge => ?_⟩
  ·have hlt : i < l.length := by have := of_decide_eq_true hlt; omega
   have hi1 : ((i : Nat) : Int).toNat = i := by omega
   have hx : l[i]? = some l[i] := List.getElem?_eq_getElem hlt
   have hyi : i < ys.length := by omega
   have hyx : ys[i] = l[i] := by
    have := hyk i (Nat.le_refl _)
    rw [hx, List.getElem?_eq_getElem hyi] at this
    injection this
   have ow : ∀ k v, k < 5 → (l[i]).cells[k]? = some v → (cellsI (ys ++ [j77]))[i * 5 + k]? = some v := fun k v hk hv => by
    rw [cellsI_app, List.getElem?_append_left (by rw [cellsI_len]; omega), cellsI_get ys hyi hk, hyx]; exact hv
   have hset : setn (cellsI (ys ++ [j77])) (i * 5) (.int .i64 1) = cellsI (ys.set i { ys[i] with op := 1 } ++ [j77]) := by
    have := cellsI_set (ys ++ [j77]) i 0 (by simp; omega) (.int .i64 1) { ys[i] with op := 1 } (by omega) (by rw [List.getElem_append_left hyi]; rfl)
    rw [Nat.add_zero] at this
    rw [this, List.set_append_left _ _ hyi]
   rw [hi1]
   refine ⟨⟨by omega, by omega⟩, _, ow 0 _ (by omega) rfl, _, ow 1 _ (by omega) rfl, _, ow 2 _ (by omega) rfl, _, ow 3 _ (by omega) rfl, _, ow 4 _ (by omega) rfl, ⟨by omega, by omega, someI hA hlt⟩, _, cellI hA hlt (k := 0) rfl, _, cellI hA hlt (k := 1) rfl, _, cellI hA hlt (k := 2) rfl, _, cellI hA hlt (k := 3) rfl, _, cellI hA hlt (k := 4) rfl, fun h => absurd h (by simp), fun _ => ⟨⟨by omega, by omega⟩, by rw [cellsI_len]; simp; omega, ((i + 1 : Nat) : Int), ArOk.to (by omega) (by omega) (by omega), lend_rule fun a W rep => again (i + 1, ys.set i { ys[i] with op := 1 }) ⟨by show i + 1 ≤ l.length; omega, by simpa using hy, ?_⟩ (by show l.length - (i + 1) < l.length - i; omega) a W (rep.le (by (simp only [setn, List.nil_append, List.cons_append, leF, leH_nil, leH_cons, leF_nil, lk, scp, scpL, scpO, resF, resH, resO, resV, resVL, nth, Nat.reduceBEq, Nat.reduceLT, decide_true, decide_false, List.length, List.length_cons, List.length_nil, Nat.reduceAdd, Bool.and_self, Bool.and_true, and_true, true_and, numF] <;> try simp)) (by rw [hset]; (simp only [setn, List.nil_append, List.cons_append, leF, leH_nil, leH_cons, leF_nil, lk, scp, scpL, scpO, resF, resH, resO, resV, resVL, nth, Nat.reduceBEq, Nat.reduceLT, decide_true, decide_false, List.length, List.length_cons, List.length_nil, Nat.reduceAdd, Bool.and_self, Bool.and_true, and_true, true_and, numF] <;> try simp)))⟩⟩
   intro k hk
   have hk : i + 1 ≤ k := hk
   rw [List.getElem?_set_ne (by omega)]
   exact hyk k (by omega)
  ·refine call_val (vs := [.slice A3 fs.length c3, .slice A4 fs.length c4]) (R := fun v => v = .bool true) rfl (fun W hW => same13 A3 A4 c3 c4 fs W (hW.rowAt (i := 2) rfl) (hW.rowAt (i := 3) rfl) hfl) (fun v hv => ⟨.bt, by simpa [Is] using hv, ?_⟩)
   (refine Y_go 600 ?_; dsimp only [zq8s, Y_k, zq4t, zq8n, zq6m, Nat.reduceBEq, zq6j, YK, zq9h, normF, zq6k, zq6l, zq85, zq89, zq86, zq8e, zq88, zq9w])
   exact done _ _ rfl
end Go.Proofs.YtgghmmjoplddbaaDoor
