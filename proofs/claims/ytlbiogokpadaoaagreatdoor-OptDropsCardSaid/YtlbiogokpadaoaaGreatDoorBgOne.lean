/- What a pass makes of a program is the document's: the frame of four statements. -/
import Derived.Test.YtlbiogokpadaoaaGreatDoorBgIsa4
import Derived.Test.YtlbiogokpadaoaaGreatDoorSxGhost
import Derived.Test.YtlbiogokpadaoaaGreatDoorBgCodeThr
set_option linter.unusedSimpArgs false
set_option linter.unusedVariables false
set_option linter.unnecessarySimpa false
namespace Go.Proofs.YtlbiogokpadaoaaGreatDoor
open Go Go.Sx Go.Isa
set_option maxRecDepth 100000
def errP (l : List In) : Int := if 1024 < l.length then 2 else 0
def ansP (F : List In → List In) (l : List In) : List In := if 1024 < l.length then [] else F l
def PassOk (f : Nat) (pre : List Value) (l m : List In) : Prop := ∀ A c w, ShAt w → RowAt w A (cellsI l) → CallsV Tryz.prog f (pre ++ [.slice A l.length c]) w fun v w' => Fresh w w' ∧ ∃ s, v = .tuple #[s, .int .i64 (errP l)] ∧ World.ownsB w' w.heap.size 41 5 s m.length (cellsI m)
theorem passCall {f : Nat} {pre : List Value} {C : Cx} (hC : C.P = Tryz.prog) {l m : List In} {A : Option Addr} {c : Nat} (hf : PassOk f pre l m)
  {E : Env} {s : SS} {args : List Operand} (hargs : denL s.H (evL s.F args) = some (pre ++ [.slice A l.length c])) (hG : ∀ W, HeapOk E s.H W → ShAt W) (hA : ∀ W, HeapOk E s.H W → RowAt W A (cellsI l)) {d : Option Nat} {ops : List XS} {k : List KI}
  (good : ∀ B cc, G C E (.ops ops :: k) { F := putF s.F d (.tup [.own s.H.length 0, .val (.int .i64 (errP l))]), H := s.H ++ [.own 41 0 5 B m.length cc (cellsI m)] }) :
  G C E (.ops ({ dst := d, guard := none, i := .call f args } :: ops) :: k) s := by
 refine call_rule hargs (fun W hW => by rw [hC]; exact hf A c W (hG W hW) (hA W hW)) fun W v W' hW hr => ?_
 obtain ⟨hk, sv, rfl, hs⟩ := hr
 obtain ⟨B, cc, rfl, hx, hh, hi⟩ := hW.gain hs hk
 exact ⟨_, _, by simp only [Is, IsL]; exact ⟨_, ⟨_, _, by simpa only [Is] using hi, ⟨_, _, rfl, rfl, rfl⟩, rfl⟩, rfl⟩, hx, hh, good B cc⟩
def i77 : In := ⟨77, 0, 0, 0, 0⟩
theorem law15 (n : Int) (A : Option Addr) (c : Nat) (l m : List In) (w : World) (hG : ShAt w) (hA : RowAt w A (cellsI l)) (hl : l.length ≤ 2000) (hm : m.length ≤ 2000) (h27 : PassOk 27 [.int .i64 n] l m) (h30 : PassOk 30 [.int .i64 n] l m) :
  CallsV Tryz.prog 15 [.int .i64 n, .slice A l.length c] w fun v w' => Fresh w w' ∧ v = .bool true := by
 refine calls_go (keep := K15) (nt := 95) (svs := [.val (.int .i64 n), .val (.slice A l.length c)]) Tryz.func15 x15 n15 (by simp) (by simp [IsL, Is]) fun R hR => ?_
 (refine Y_go 600 ?_; dsimp only [X15, numF, Nat.reduceAdd, zq9q, zq9p, Y_k, zq4t, zq8o, zq6o, YK, zq8s, zq9h, normF, zq6m, Nat.reduceBEq, zq6k, zq6j, zq6l, zq85, zq89, zq86, zq9x, t15n11, T15n11, zq8n, zq9i])
 refine call_own (vs := [.slice A l.length c]) rfl (fun W hW => twin29 A c l W (hA.keep hW.fresh') (by omega)) fun A1 c1 => ?_
 (refine Y_go 600 ?_; dsimp only [List.length_nil, zq8s, List.nil_append, Y_k, zq5f, List.map, zq6p, zq21, zq8o, zq7t, Nat.reduceBEq, zq72, zq0a, dropL, takeL, zq20, splice, setn, zq22, zq25, YK, zq5g, repL, List.cons_append, zq23, Nat.reduceMul, zq8n, zq6m, zq6j, zq7s, List.length_cons, Nat.reduceAdd, zq8k, zq8l, zq8j, zq24, zq26, zq5k, zq6k, zq2v, nth, zq09, zq08, zq2r, zq9a, zq2q, zq2n, zq2j, zq2k, denL, den, zq2l, zq2h, zq4t, zq9h, normF, zq6l, zq85, zq8e, zq89, zq86, zq9x, t15n10, T15n10, zq9q, zq9p, zq54, zq0r, zq5n, zq39, zq38, zq06, zq36, zq3h, zq3c, zq96, Int.reduceToNat, zq9i])
 intro g1
 refine ⟨⟨by simp only [maxLen]; omega, by omega⟩, fun A2 c2 => ⟨⟨by omega, by omega, by omega⟩, ?_⟩⟩
 have hap : cellsI l ++ [.int .i64 77, .int .i64 0, .int .i64 0, .int .i64 0, .int .i64 0] = cellsI (l ++ [i77]) := by rw [cellsI_app]; rfl
 rw [hap]
 have hown : ∀ {b : World} {H : List SO} {W : World}, HeapOk ⟨b, b.heap.size, [], 95, []⟩ (.own 41 1 5 A2 (l.length + 1) c2 (cellsI (l ++ [i77])) :: H) W → RowAt W A2 (cellsI l) := fun hW => by
  have := hW.rowAt (i := 0) rfl
  rw [cellsI_app] at this; exact this.pre
 refine passCall rfl (l := l) (A := A2) (c := c2) h27 rfl (fun W hW => hG.keep hW.fresh') (fun W hW => hown hW) fun A3 c3 => ?_
 (refine Y_go 600 ?_; dsimp only [List.length_cons, List.length_nil, Nat.reduceAdd, zq8s, List.cons_append, List.nil_append, Y_k, zq4t, zq8n, zq6m, Nat.reduceBEq, zq6j, YK, zq5i, zq2f, nth, zq2e, zq6k, zq9h, normF, zq6l, zq85, zq86, zq8e, zq89, zq9x, t15n9, T15n9, zq9q, zq9p, zq9i])
 refine passCall rfl (l := l) (A := A) (c := c) h30 rfl (fun W hW => hG.keep hW.fresh') (fun W hW => hA.keep hW.fresh') fun A4 c4 => ?_
 (refine Y_go 600 ?_; dsimp only [List.length_cons, List.length_nil, Nat.reduceAdd, zq8s, List.cons_append, List.nil_append, Y_k, zq4t, zq8n, zq6m, Nat.reduceBEq, zq6j, YK, zq5i, zq2f, nth, zq2e, zq6k, zq9h, normF, zq6l, zq85, zq86, zq8e, zq89, zq9x, t15n8, T15n8, zq9q, zq9p, zq4z, zq04, zq91, zq9a, zq0i, zq9c, Y_gk, zq6d, YS, zq69, zq9k, zq4u, zq8o, zq6n, zq0b, zq88, zq9r, zq6e, YC, t15n0, T15n0, zq6o, zq9w, YR, zq6b, YG])
 refine ⟨fun h => absurd h (by simp), fun _ => ?_⟩
 refine call_val (vs := [.slice A3 m.length c3, .slice A4 m.length c4]) (R := fun v => v = .bool true) rfl (fun W hW => (same31 A3 A4 c3 c4 m m W (hW.rowAt (i := 2) rfl) (hW.rowAt (i := 3) rfl) (by omega)).mono fun v w' h => ⟨by rw [h.2]; simp, h.1⟩) (fun v hv => ⟨.bt, by simpa [Is] using hv, ?_⟩)
 (refine Y_go 600 ?_; dsimp only [zq8s, Y_gk, zq6m, Nat.reduceBEq, zq6k, zq6j, zq6b, YR, zq52, zq8n, zq0m, YK, Y_k, zq4u, zq8o, zq6n, zq0c, zq4t, zq54, zq0r, zq5n, zq39, zq38, zq06, zq36, zq3h, nth, zq09, zq08, zq3c, zq96, Int.reduceToNat, zq9k, YG])
 refine ⟨⟨by omega, by omega, by omega⟩, ?_⟩
 refine call_val (vs := [.slice A2 l.length c2, .slice A l.length c]) (R := fun v => v = .bool true) rfl (fun W hW => (same31 A2 A c2 c l l W (hown hW) (hA.keep hW.fresh') (by omega)).mono fun v w' h => ⟨by rw [h.2]; simp, h.1⟩) (fun v hv => ⟨.bt, by simpa [Is] using hv, ?_⟩)
 have g77 : (cellsI (l ++ [i77]))[l.length * 5]? = some (.int .i64 77) := by
  rw [cellsI_app, List.getElem?_append_right (by rw [cellsI_len]; exact Nat.le_refl _), cellsI_len, Nat.sub_self]; rfl
 (refine Y_go 600 ?_; dsimp only [zq8s, Y_gk, zq6m, Nat.reduceBEq, zq6k, zq6j, zq6b, YR, zq52, zq8n, zq0m, YK, Y_k, zq4u, zq8o, zq6n, zq0c, zq4t, zq54, zq0r, zq57, zq06, zq0y, nth, zq09, zq08, zq0v, zq59, zq15, Nat.add_zero, zq13, zq5b, zq1q, zq1n, zq1c, List.nil_append, zq1b, zq18, zq4z, zq6p, zq04, zq91, zq9a, zq0i, zq9c, zq9h, normF, zq6l, zq85, zq86, zq8e, zq89, zq9r, zq6g, zq8w, YC, zq9x, t15n0, T15n0, zq9q, zq9p, zq6o, zq88, zq9w, zq9o, t15n7, T15n7, zq0t, zq0q, zq9s, zq9u])
 refine ⟨⟨by omega, by omega⟩, 77, by rw [show (l.length : Int).toNat * 5 = l.length * 5 by omega]; exact g77, fun h => absurd h (by decide), fun _ => ?_⟩
 refine loop_go (α := Nat × List In) (fun x => x.1 ≤ m.length ∧ x.2.length = m.length) (fun _ => ⟨w, w.heap.size, [], 95, []⟩)
  (fun x => { F := [(0, .val (.int .i64 n)), (1, .val (.slice A l.length c)), (4, .bf), (5, .own 0 0), (6, .own 2 0), (8, .own 3 0), (59, .val (.int .i64 m.length)), (60, .val (.int .i64 x.1))], H := [.own 41 0 5 A2 (l.length + 1) c2 (cellsI (l ++ [i77])), .cells g1 41 [.val (.int .i64 77), .val (.int .i64 0), .val (.int .i64 0), .val (.int .i64 0), .val (.int .i64 0)], .own 41 0 5 A3 m.length c3 (cellsI x.2), .own 41 0 5 A4 m.length c4 (cellsI m)] }) (fun x => m.length - x.1) (fun _ => rfl) ?start ?round
 case start =>
  intro a W rep
  refine ⟨(0, m), ⟨Nat.zero_le _, rfl⟩, rep.res.le ?_ ?_⟩ <;> (simp only [setn, List.nil_append, List.cons_append, leF, leH_nil, leH_cons, leF_nil, lk, scp, scpL, scpO, resF, resH, resO, resV, resVL, nth, Nat.reduceBEq, Nat.reduceLT, decide_true, decide_false, List.length, List.length_cons, List.length_nil, Nat.reduceAdd, Bool.and_self, Bool.and_true, and_true, true_and, numF] <;> try simp)
 case round =>
  rintro ⟨i, ys⟩ ⟨hi, hy⟩ I hI
  have hi : i ≤ m.length := hi
  have hy : ys.length = m.length := hy
  (refine Y_go 600 ?_; dsimp only [zq9x, t15n4, T15n4, zq9q, zq9p, Y_k, zq4z, zq8n, zq6m, Nat.reduceBEq, zq6k, zq6j, zq04, zq91, zq9a, zq0i, zq9d, YK, zq8s, zq9h, normF, zq6l, zq86, zq85, zq8e, zq89, t15n3, T15n3, zq9r, zq6g, zq8w, YC, zq9o, t15n2, T15n2, zq9s, zq4t, zq88, t15n1, T15n1, zq57, zq06, zq0y, nth, zq09, zq08, zq0v, zq59, zq15, Nat.add_zero, zq13, zq5c, zq8o, zq6p, zq7t, zq72, zq0a, zq1y, zq1w, denL, den, zq1v, splice, setn, zq8r, zqa0, zq4v, zq0e, zqa1, zq9t, popTo, zq6h, YP, t15n6, T15n6, zq5f, List.map, zq21, dropL, takeL, zq20, zq22, zq25, zq5g, repL, List.cons_append, List.nil_append, zq23, Nat.reduceMul, zq7s, List.length_cons, List.length_nil, Nat.reduceAdd, zq8k, zq8l, zq8j, zq24, zq26, zq5k, zq2v, zq2r, zq2q, zq2n, zq2j, zq2k, zq2l, zq2h, t15n5, T15n5, zq54, zq0r, zq5n, zq39, zq38, zq36, zq3h, zq3c, zq96, Int.reduceToNat, zq9i])
  refine ⟨fun h => ?_, fun h => ?_⟩
  ·have hlt : i < ys.length := by have := of_decide_eq_true h; omega
   refine ⟨⟨by omega, by omega⟩, by rw [cellsI_len]; omega, _, .add64 (by omega) (by omega), lend_rule fun a W rep => hI (i + 1, ys.set i { ys[i] with op := 77 }) ⟨(by omega : i + 1 ≤ m.length), (by simpa using hy)⟩ (by show m.length - (i + 1) < m.length - i; omega) a W (rep.le ?_ ?_)⟩
   ·(simp only [setn, List.nil_append, List.cons_append, leF, leH_nil, leH_cons, leF_nil, lk, scp, scpL, scpO, resF, resH, resO, resV, resVL, nth, Nat.reduceBEq, Nat.reduceLT, decide_true, decide_false, List.length, List.length_cons, List.length_nil, Nat.reduceAdd, Bool.and_self, Bool.and_true, and_true, true_and, numF] <;> try simp)
   ·have := cellsI_set ys i 0 hlt (.int .i64 77) { ys[i] with op := 77 } (by omega) rfl
    rw [show (i : Int).toNat * 5 = i * 5 + 0 by omega, this]
    (simp only [setn, List.nil_append, List.cons_append, leF, leH_nil, leH_cons, leF_nil, lk, scp, scpL, scpO, resF, resH, resO, resV, resVL, nth, Nat.reduceBEq, Nat.reduceLT, decide_true, decide_false, List.length, List.length_cons, List.length_nil, Nat.reduceAdd, Bool.and_self, Bool.and_true, and_true, true_and, numF] <;> try simp)
  ·refine fun g2 => ⟨⟨by simp only [maxLen]; omega, by omega⟩, fun A5 c5 => ⟨⟨by omega, by omega, by omega⟩, ?_⟩⟩
   have hown0 : ∀ {b : World} {H : List SO} {W : World}, HeapOk ⟨b, b.heap.size, [], 95, []⟩ (.own 41 0 5 A2 (l.length + 1) c2 (cellsI (l ++ [i77])) :: H) W → RowAt W A2 (cellsI l) := fun hW => by
    have := hW.rowAt (i := 0) rfl
    rw [cellsI_app] at this; exact this.pre
   refine call_val (vs := [.slice A2 l.length c2, .slice A l.length c]) (R := fun v => v = .bool true) rfl (fun W hW => (same31 A2 A c2 c l l W (hown0 hW) (hA.keep hW.fresh') (by omega)).mono fun v w' h => ⟨by rw [h.2]; simp, h.1⟩) (fun v hv => ⟨.bt, by simpa [Is] using hv, ?_⟩)
   (refine Y_go 600 ?_; dsimp only [zq8s, Y_k, zq4t, zq8n, zq6m, Nat.reduceBEq, zq6j, YK, Y_gk, zq68, YR, zq6k, zq54, zq0r, zq57, zq06, zq0y, nth, zq09, zq08, zq0v, zq59, zq15, Nat.add_zero, zq13, zq5b, zq1q, zq1n, zq1c, List.nil_append, zq1b, zq18, zq4z, zq8o, zq6p, zq04, zq91, zq9a, zq0i, zq9b, zq4u, zq6o, zq0b, zq6c, zq0t, zq0q, zq4v, zq0e, zq9h, normF, zq6l, zq89, zq86, zq85, zq8e, zq9w, YS, zq6a, zq0c])
   refine ⟨⟨by omega, by omega⟩, 77, by rw [show (l.length : Int).toNat * 5 = l.length * 5 by omega]; exact g77, fun _ => ⟨_, .add64 (by omega) (by omega), ?_⟩, fun h => absurd h (by decide)⟩
   exact ret_rule (vs := [.bool _]) r15 rfl rfl fun W hW => hR _ _ ⟨hW.fresh', by simp [tupOf]⟩
end Go.Proofs.YtlbiogokpadaoaaGreatDoor
namespace Go.Proofs.YtlbiogokpadaoaaGreatDoor
open Go Go.Sx Go.Isa
set_option maxRecDepth 100000
theorem ansP_len {F : List In → List In} (l : List In) (hF : (F l).length ≤ l.length) : (ansP F l).length ≤ l.length := by
 unfold ansP; split
 ·simp
 ·exact hF
theorem errP_gt {l : List In} (h : 1024 < l.length) : errP l = 2 := by unfold errP; rw [if_pos h]
theorem errP_le {l : List In} (h : l.length ≤ 1024) : errP l = 0 := by unfold errP; rw [if_neg (by omega)]
theorem ansP_gt {F : List In → List In} {l : List In} (h : 1024 < l.length) : ansP F l = [] := by unfold ansP; rw [if_pos h]
theorem ansP_le {F : List In → List In} {l : List In} (h : l.length ≤ 1024) : ansP F l = F l := by unfold ansP; rw [if_neg (by omega)]
end Go.Proofs.YtlbiogokpadaoaaGreatDoor
