/- The document's Same. -/
import Derived.Test.YtgghmmjoplddbaaDoorDBgIsa3
import Derived.Test.YtgghmmjoplddbaaDoorDBgCodeThr
set_option linter.unusedSimpArgs false
set_option linter.unusedVariables false
set_option linter.unnecessarySimpa false
namespace Go.Proofs.YtgghmmjoplddbaaDoor
open Go Go.Sx Go.Isa
set_option maxRecDepth 100000
theorem same31 (A B : Option Addr) (c d : Nat) (l m : List In) (w : World) (hA : RowAt w A (cellsI l)) (hB : RowAt w B (cellsI m)) (hl : l.length ≤ 2000000)
   : CallsV Tryd.prog 10 [.slice A l.length c, .slice B m.length d] w fun v w' => Fresh w w' ∧ v = .bool (decide (l = m)) := by
 refine calls_go (keep := K10) (nt := 26) (svs := [.val (.slice A l.length c), .val (.slice B m.length d)]) Tryd.func10 x10 n10 (by simp) (by simp [IsL, Is]) fun R hR => ?_
 have no : l ≠ m → ∀ s, denAll s.H s.F [4] = some [.bool false] → RetG (cxOf Tryd.prog Tryd.f10 K10 T10 R) ⟨w, w.heap.size, [], 26, []⟩ s := fun hk s hs =>
  ret_rule r10 rfl hs fun W hW => hR _ _ ⟨hW.fresh', by simp [hk, tupOf]⟩
 (refine Y_go 600 ?_; dsimp only [X10, numF, Nat.reduceAdd, zq9r, zq9q, Y_k, zq4u, zq8p, zq6p, YK, zq8t, zq9i, normF, zq6n, Nat.reduceBEq, zq6l, zq6k, zq6m, zq86, zq8a, zq87, zq9y, t10n7, T10n7, zq8o, zq55, zq0r, zq50, zq04, zq92, zq9b, zq0i, zq9d, zq9s, zq6h, zq8x, YC, t10n0, T10n0, zq89, zq9x, zq9p, t10n6, T10n6, zq6q, zq9t, zq9v])
 refine ⟨fun h => no (fun e => by simp [e] at h) _ rfl, fun h => ?_⟩
 have hlm : l.length = m.length := by have : (l.length : Int) = m.length := by simpa using h
                                      omega
 refine loop_go (α := Nat) (fun i => i ≤ l.length ∧ l.take i = m.take i) (fun _ => ⟨w, w.heap.size, [], 26, []⟩)
   (fun i => { F := [(0, .val (.slice A l.length c)), (1, .val (.slice B m.length d)), (5, .val (.int .i64 i))], H := [] }) (fun i => l.length - i) (fun _ => rfl) ?start ?round
 case start =>
  intro a W rep
  refine ⟨0, ⟨Nat.zero_le _, by simp⟩, rep.le ?_ ?_⟩ <;> (simp only [setn, List.nil_append, List.cons_append, leF, leH_nil, leH_cons, leF_nil, lk, scp, scpL, scpO, resF, resH, resO, resV, resVL, nth, Nat.reduceBEq, Nat.reduceLT, decide_true, decide_false, List.length, List.length_cons, List.length_nil, Nat.reduceAdd, Bool.and_self, Bool.and_true, and_true, true_and, numF] <;> try simp)
 case round =>
  rintro i ⟨hi, ht⟩ I hI
  (refine Y_go 600 ?_; dsimp only [zq9y, t10n4, T10n4, zq9r, zq9q, Y_k, zq4u, zq8o, zq6n, Nat.reduceBEq, zq6l, zq6k, YK, zq8t, zq55, zq0r, zq50, zq04, zq92, zq9b, zq0i, zq9e, zq9i, normF, zq6m, zq86, zq87, zq9s, zq6h, zq8x, YC, zq9p, t10n3, T10n3, zq9t, zq58, zq06, zq0w, zq5c, zq1p, zq1c, List.nil_append, List.cons_append, zq1b, zq17, zq5s, zq3o, eqSV, zq3p, zq89, t10n1, T10n1, zq8p, zq6p, zq8a, zq9x, zqa1, t10n2, T10n2, zq4w, zq6q, zq0e, zqa2, zq9u, popTo, zq6i, YP, t10n5, T10n5, zq6o])
  refine ⟨fun hlt => ?_, fun hge => ?_⟩
  ·have hlt : i < l.length := by have := of_decide_eq_true hlt; omega
   have hlt' : i < m.length := by omega
   refine ⟨⟨by omega, by omega, someI hA hlt⟩, _, cellI hA hlt (k := 0) rfl, _, cellI hA hlt (k := 1) rfl, _, cellI hA hlt (k := 2) rfl, _, cellI hA hlt (k := 3) rfl, _, cellI hA hlt (k := 4) rfl,
    ⟨by omega, by omega, someI hB hlt'⟩, _, cellI hB hlt' (k := 0) rfl, _, cellI hB hlt' (k := 1) rfl, _, cellI hB hlt' (k := 2) rfl, _, cellI hB hlt' (k := 3) rfl, _, cellI hB hlt' (k := 4) rfl, ?_⟩
   have hel : (l[i].op = m[i].op ∧ l[i].a = m[i].a ∧ l[i].b = m[i].b ∧ l[i].c = m[i].c ∧ l[i].imm = m[i].imm) ↔ l[i] = m[i] := by
    constructor
    ·rintro ⟨h1, h2, h3, h4, h5⟩
     have : ∀ x y : In, x.op = y.op → x.a = y.a → x.b = y.b → x.c = y.c → x.imm = y.imm → x = y := by
      rintro ⟨⟩ ⟨⟩ h1 h2 h3 h4 h5; simp at h1 h2 h3 h4 h5; simp [h1, h2, h3, h4, h5]
     exact this _ _ h1 h2 h3 h4 h5
    ·intro h; rw [h]; simp
   refine ⟨fun h => no (fun e => ?_) _ rfl, fun h => ⟨_, .add64 (by omega) (by omega), lend_rule fun a W rep => hI (i + 1) ⟨by omega, ?_⟩ (by omega) a W (rep.le ?_ ?_)⟩⟩
   ·subst e; simp at h
   ·rw [take_succ l hlt, take_succ m hlt', ht, hel.1 (by simpa using h)]
   ·(simp only [setn, List.nil_append, List.cons_append, leF, leH_nil, leH_cons, leF_nil, lk, scp, scpL, scpO, resF, resH, resO, resV, resVL, nth, Nat.reduceBEq, Nat.reduceLT, decide_true, decide_false, List.length, List.length_cons, List.length_nil, Nat.reduceAdd, Bool.and_self, Bool.and_true, and_true, true_and, numF] <;> try simp)
   ·(simp only [setn, List.nil_append, List.cons_append, leF, leH_nil, leH_cons, leF_nil, lk, scp, scpL, scpO, resF, resH, resO, resV, resVL, nth, Nat.reduceBEq, Nat.reduceLT, decide_true, decide_false, List.length, List.length_cons, List.length_nil, Nat.reduceAdd, Bool.and_self, Bool.and_true, and_true, true_and, numF] <;> try simp)
  ·have hil : i = l.length := by have := of_decide_eq_false hge; omega
   subst hil
   have : l = m := by rw [List.take_length, hlm, List.take_length] at ht; exact ht
   exact ret_rule (vs := [.bool true]) r10 rfl rfl fun W hW => hR _ _ ⟨hW.fresh', by simp [this, tupOf]⟩
end Go.Proofs.YtgghmmjoplddbaaDoor
