/- AsmBlanks: the statement, walked. -/
import Derived.Test.YtaiajnehnjnadaaDoorLLb1
import Derived.Test.YtaiajnehnjnadaaDoorLSame
import Derived.Test.YtaiajnehnjnadaaDoorIsaSpec
import Derived.Test.YtaiajnehnjnadaaDoorLAsCodeB
set_option linter.unusedSimpArgs false
set_option linter.unusedVariables false
set_option linter.unnecessarySimpa false
namespace Go.Proofs.YtaiajnehnjnadaaDoor
open Go Go.Sx Go.Isa Go.Asm
set_option maxRecDepth 100000
theorem asm_len (t : B) : (asmL t).1.length ≤ 1024 := by
 have h := readL_ok (linesL t) [] [] LbOk.nil (by simp)
 unfold asmL
 simp only
 split
 ·simpa [outL] using h.2
 ·exact Nat.zero_le _
theorem bkV (a b : B) : bytesV ⟨⟨a ++ b⟩⟩ = bytesV ⟨⟨a⟩⟩ ++ bytesV ⟨⟨b⟩⟩ := by simp [bytesV]
theorem gb (r : B) (i : Nat) (x : UInt8) (h : r[i]? = some x) : (⟨⟨r⟩⟩ : ByteArray)[i]? = some x := by
 have hi : i < r.length := (List.getElem?_eq_some_iff.1 h).1
 have e : (⟨⟨r⟩⟩ : ByteArray)[i]? = some ((⟨⟨r⟩⟩ : ByteArray)[i]'(by simpa [ByteArray.size] using hi)) := getElem?_pos ..
 rw [e]
 rw [List.getElem?_eq_getElem hi] at h
 exact h
theorem blanks4 (t r : B) (w : World) (hG : ShAt w) (hT : TabAt w) (hLb : LibAt w) :
  CallsV Tryd.prog 4 [.string ⟨⟨t⟩⟩, .string ⟨⟨r⟩⟩] w fun v w' => Fresh w w' ∧ v = .bool true := by
 refine calls_go (keep := K4) (nt := 87) (svs := [.val (.string ⟨⟨t⟩⟩), .val (.string ⟨⟨r⟩⟩)]) Tryd.func4 x4 n4 (by simp) (by simp [IsL, Is]) fun R hR => ?_
 (refine Y_go 600 ?_; dsimp only [X4, numF, Nat.reduceAdd, zq9r, zq9q, Y_k, zq4u, zq8p, zq6p, YK, zq8t, zq9i, normF, zq6n, Nat.reduceBEq, zq6l, zq6k, zq6m, zq86, zq8a, zq87, zq9y, t4n19, T4n19, zq9j])
 refine call_val (vs := []) rfl (fun W hW => alive10 W (hG.keep hW.fresh') (hT.keep hW.fresh') (hLb.keep hW.fresh')) fun v hv => ⟨.bt, by rw [hv]; simp [Is], ?_⟩
 (refine Y_go 600 ?_; dsimp only [zq8t, Y_k, zq4u, zq8o, zq6n, Nat.reduceBEq, zq6k, YK, zq9i, normF, zq6l, zq6m, zq86, zq89, zq8a, zq87, zq9y, t4n18, T4n18, zq9r, zq9q, zq56, zq0u, zq50, zq8p, zq6q, zq04, zq92, zq9b, zq0i, zq9g, Y_gk, zq6e, YS, zq6a, zq4v, zq6o, zq0b, zq9s, zq6f, YC, t4n0, T4n0, zq9x, YR, zq6c, zq0c, zq53, zq0m, zq6g, zq9p, t4n17, T4n17, zq9t, zq9v])
 have done : ∀ F H, denAll H F [4] = some [.bool true] → RetG (cxOf Tryd.prog Tryd.f4 K4 T4 R) ⟨w, w.heap.size, [], 87, []⟩ { F := F, H := H } := fun F H hd =>
  ret_rule (vs := [.bool true]) r4 rfl hd fun W hW => hR _ _ ⟨hW.fresh', rfl⟩
 have hst : (⟨⟨t⟩⟩ : ByteArray).size = t.length := size_str t
 have hsr : (⟨⟨r⟩⟩ : ByteArray).size = r.length := size_str r
 refine ⟨fun _ => done _ _ rfl, fun h1 => ⟨fun _ => done _ _ rfl, fun h2 => ?_⟩⟩
 have ht : t.length ≤ 2000 := by have := of_decide_eq_false h1; omega
 have hr : r.length ≤ 100 := by have := of_decide_eq_false h2; omega
 refine loop_go (α := Nat) (fun i => i ≤ r.length ∧ ∀ c ∈ r.take i, c ≠ 10) (fun _ => ⟨w, w.heap.size, [], 87, []⟩) (fun i => { F := [(0, .val (.string ⟨⟨t⟩⟩)), (1, .val (.string ⟨⟨r⟩⟩)), (5, .bt), (6, .val (.int .i64 (i : Int)))], H := [] }) (fun i => r.length - i) (fun _ => rfl) ?start ?round
 case start =>
  intro a W rep
  exact ⟨0, ⟨Nat.zero_le _, by simp⟩, rep.le (by (simp only [setn, List.nil_append, List.cons_append, leF, leH_nil, leH_cons, leF_nil, lk, scp, scpL, scpO, resF, resH, resO, resV, resVL, nth, Nat.reduceBEq, Nat.reduceLT, decide_true, decide_false, List.length, List.length_cons, List.length_nil, Nat.reduceAdd, Bool.and_self, Bool.and_true, and_true, true_and, numF] <;> try simp)) (by (simp only [setn, List.nil_append, List.cons_append, leF, leH_nil, leH_cons, leF_nil, lk, scp, scpL, scpO, resF, resH, resO, resV, resVL, nth, Nat.reduceBEq, Nat.reduceLT, decide_true, decide_false, List.length, List.length_cons, List.length_nil, Nat.reduceAdd, Bool.and_self, Bool.and_true, and_true, true_and, numF] <;> try simp))⟩
 case round =>
  rintro i ⟨hi, hno⟩ I again
  (refine Y_go 600 ?_; dsimp only [zq9y, t4n4, T4n4, zq9r, zq9q, Y_k, zq4u, zq8o, zq6n, Nat.reduceBEq, zq6l, zq6k, YK, zq8t, zq56, zq0u, zq50, zq04, zq92, zq9b, zq0i, zq9e, zq9i, normF, zq6m, zq86, zq87, zq89, zq9s, zq6h, zq8x, YC, zq9p, t4n3, T4n3, zq9t, zq5q, zq06, zq3l, zq8p, zq6q, zq93, zq9c, t4n1, T4n1, zq9x, zqa1, t4n2, T4n2, zq4w, zq0e, zq8a, zqa2, zq9u, popTo, zq6i, YP, t4n16, T4n16, zq6u, t4n15, T4n15, zq9v])
  refine ⟨fun hlt => ?_, fun hge => ?_⟩
  ·have hlt : i < r.length := by have := of_decide_eq_true hlt; omega
   have hx : r[i]? = some r[i] := List.getElem?_eq_getElem hlt
   have htk : r.take (i + 1) = r.take i ++ [r[i]] := by rw [List.take_add_one, hx]; rfl
   have hi1 : ((i : Nat) : Int).toNat = i := by omega
   generalize r[i] = x at hx htk
   refine ⟨by omega, x, by rw [hi1]; exact gb r i x hx, fun _ => done _ _ rfl, fun hne => ⟨_, .add64 (by omega) (by omega), lend_rule fun a W rep => again (i + 1) ⟨by omega, ?_⟩ (by omega) a W (rep.le (by (simp only [setn, List.nil_append, List.cons_append, leF, leH_nil, leH_cons, leF_nil, lk, scp, scpL, scpO, resF, resH, resO, resV, resVL, nth, Nat.reduceBEq, Nat.reduceLT, decide_true, decide_false, List.length, List.length_cons, List.length_nil, Nat.reduceAdd, Bool.and_self, Bool.and_true, and_true, true_and, numF] <;> try simp)) (by (simp only [setn, List.nil_append, List.cons_append, leF, leH_nil, leH_cons, leF_nil, lk, scp, scpL, scpO, resF, resH, resO, resV, resVL, nth, Nat.reduceBEq, Nat.reduceLT, decide_true, decide_false, List.length, List.length_cons, List.length_nil, Nat.reduceAdd, Bool.and_self, Bool.and_true, and_true, true_and, numF] <;> try simp)))⟩⟩
   rw [htk]
   intro y hy
   rcases List.mem_append.1 hy with hy | hy
   ·exact hno y hy
   ·rw [List.mem_singleton.1 hy]; intro e; subst e; exact absurd hne (by decide)
  ·have hil : i = r.length := by have := of_decide_eq_false hge; omega
   subst hil
   rw [List.take_length] at hno
   refine loop_go (α := Nat × Option Addr × Nat) (fun q => q.1 ≤ t.length) (fun _ => ⟨w, w.heap.size, [], 87, []⟩) (fun q => { F := [(0, .val (.string ⟨⟨t⟩⟩)), (1, .val (.string ⟨⟨r⟩⟩)), (5, .bt), (7, .own 0 0), (8, .val (.int .i64 (q.1 : Int)))], H := [.own 5 0 1 q.2.1 (blanked r (t.take q.1)).length q.2.2 (bytesV ⟨⟨blanked r (t.take q.1)⟩⟩)] }) (fun q => t.length - q.1) (fun _ => rfl) ?start2 ?round2
   case start2 =>
    intro a W rep
    have rep1 := (rep.le (s' := { F := [(0, .val (.string ⟨⟨t⟩⟩)), (1, .val (.string ⟨⟨r⟩⟩)), (5, .bt), (7, .val (.slice none 0 0)), (8, .val (.int .i64 0))], H := [] }) (by (simp only [setn, List.nil_append, List.cons_append, leF, leH_nil, leH_cons, leF_nil, lk, scp, scpL, scpO, resF, resH, resO, resV, resVL, nth, Nat.reduceBEq, Nat.reduceLT, decide_true, decide_false, List.length, List.length_cons, List.length_nil, Nat.reduceAdd, Bool.and_self, Bool.and_true, and_true, true_and, numF] <;> try simp)) (by (simp only [setn, List.nil_append, List.cons_append, leF, leH_nil, leH_cons, leF_nil, lk, scp, scpL, scpO, resF, resH, resO, resV, resVL, nth, Nat.reduceBEq, Nat.reduceLT, decide_true, decide_false, List.length, List.length_cons, List.length_nil, Nat.reduceAdd, Bool.and_self, Bool.and_true, and_true, true_and, numF] <;> try simp))).adopt 7 5 1 rfl
    exact ⟨(0, none, 0), Nat.zero_le _, rep1.le (by (simp only [setn, List.nil_append, List.cons_append, leF, leH_nil, leH_cons, leF_nil, lk, scp, scpL, scpO, resF, resH, resO, resV, resVL, nth, Nat.reduceBEq, Nat.reduceLT, decide_true, decide_false, List.length, List.length_cons, List.length_nil, Nat.reduceAdd, Bool.and_self, Bool.and_true, and_true, true_and, numF] <;> try simp)) (by (simp only [setn, List.nil_append, List.cons_append, leF, leH_nil, leH_cons, leF_nil, lk, scp, scpL, scpO, resF, resH, resO, resV, resVL, nth, Nat.reduceBEq, Nat.reduceLT, decide_true, decide_false, List.length, List.length_cons, List.length_nil, Nat.reduceAdd, Bool.and_self, Bool.and_true, and_true, true_and, numF] <;> try simp); exact ⟨rfl, rfl⟩)⟩
   case round2 =>
    rintro ⟨i, A, c⟩ hi I again
    have hi : i ≤ t.length := hi
    (refine Y_go 600 ?_; dsimp only [zq9y, t4n11, T4n11, zq9r, zq9q, Y_k, zq4u, zq8o, zq6n, Nat.reduceBEq, zq6l, zq6k, YK, zq8t, zq56, zq0u, zq50, zq04, zq92, zq9b, zq0i, zq9e, zq9i, normF, zq6m, zq86, zq87, zq8f, zq89, zq9s, zq6h, zq8x, YC, zq9p, t4n10, T4n10, zq9t, zq5q, zq06, zq3l, zq8p, zq6q, zq93, zq9c, t4n7, T4n7, zq5l, zq6s, zq2w, nth, zq09, zq08, zq2s, zq2r, zq2p, zq2h, Nat.reduceAdd, setn, t4n6, T4n6, t4n5, T4n5, zqa1, t4n9, T4n9, zq4w, zq0e, zqa2, t4n8, T4n8, zq5h, List.map, repL, List.cons_append, List.nil_append, zq23, Nat.reduceMul, zq7u, zq73, zq0a, dropL, takeL, zq20, splice, zq24, zq26, List.length_cons, List.length_nil, zq2n, zq2j, zq2k, zq8l, zq8m, zq8k, denL, den, zq2l, zq8a, zq9u, popTo, zq6i, YP, t4n14, T4n14, zq9j])
    have hbl : (blanked r (t.take i)).length ≤ 214000 := by
     have h1 := blanked_len r (t.take i)
     have h2 : (t.take i).length ≤ 2000 := by rw [List.length_take]; omega
     have h3 := Nat.mul_le_mul h2 (show r.length + 7 ≤ 107 by omega)
     omega
    have e3 : (⟨⟨[UInt8.ofNat 32, UInt8.ofNat 9, UInt8.ofNat 59]⟩⟩ : ByteArray).size = 3 := rfl
    have e4 : (⟨⟨[UInt8.ofNat 10, UInt8.ofNat 10, UInt8.ofNat 32, UInt8.ofNat 32]⟩⟩ : ByteArray).size = 4 := rfl
    refine ⟨fun hlt => ?_, fun hge => ?_⟩
    ·have hlt : i < t.length := by have := of_decide_eq_true hlt; omega
     have hx : t[i]? = some t[i] := List.getElem?_eq_getElem hlt
     have htk : t.take (i + 1) = t.take i ++ [t[i]] := by rw [List.take_add_one, hx]; rfl
     have hi1 : ((i : Nat) : Int).toNat = i := by omega
     generalize t[i] = x at hx htk
     have hbk : blanked r (t.take (i + 1)) = blanked r (t.take i) ++ (if x = 10 then [32, 9, 59] ++ r ++ [10, 10, 32, 32] else [x]) := by
      rw [htk, blanked_app, blanked_cons]; show _ ++ (_ ++ []) = _; rw [List.append_nil]
     refine ⟨by omega, x, by rw [hi1]; exact gb t i x hx, fun h10 => ⟨rfl, ⟨by simp only [maxLen]; omega, by omega⟩, fun A1 c1 => ⟨rfl, ⟨by simp only [maxLen]; omega, by omega⟩, fun A2 c2 => ⟨rfl, ⟨by simp only [maxLen]; omega, by omega⟩, fun A3 c3 => ⟨((i + 1 : Nat) : Int), ArOk.to (by omega) (by omega) (by omega), lend_rule fun a W rep => again (i + 1, A3, c3) (by show i + 1 ≤ _; omega) (by show t.length - (i + 1) < t.length - i; omega) a W (rep.res.le (by (simp only [setn, List.nil_append, List.cons_append, leF, leH_nil, leH_cons, leF_nil, lk, scp, scpL, scpO, resF, resH, resO, resV, resVL, nth, Nat.reduceBEq, Nat.reduceLT, decide_true, decide_false, List.length, List.length_cons, List.length_nil, Nat.reduceAdd, Bool.and_self, Bool.and_true, and_true, true_and, numF] <;> try simp)) ?_)⟩⟩⟩⟩, fun hne => ?_⟩
     ·have hx10 : x = 10 := by
       have h10 : (x.toNat : Int) = 10 := by simpa using h10
       have : x.toNat = 10 := by omega
       exact UInt8.toNat_inj.1 this
      rw [if_pos hx10] at hbk
      (simp only [setn, List.nil_append, List.cons_append, leF, leH_nil, leH_cons, leF_nil, lk, scp, scpL, scpO, resF, resH, resO, resV, resVL, nth, Nat.reduceBEq, Nat.reduceLT, decide_true, decide_false, List.length, List.length_cons, List.length_nil, Nat.reduceAdd, Bool.and_self, Bool.and_true, and_true, true_and, numF] <;> try simp)
      rw [hbk, bkV, bkV, bkV]
      refine ⟨by simp only [List.length_append, size_str, Nat.add_assoc], by simp only [List.append_assoc]⟩
     ·have hx10 : x ≠ 10 := by intro e; subst e; exact absurd hne (by decide)
      rw [if_neg hx10] at hbk
      refine ⟨by omega, x, by rw [hi1]; exact gb t i x hx, fun g => ⟨⟨by simp only [maxLen]; omega, by omega⟩, fun A1 c1 => ⟨((i + 1 : Nat) : Int), ArOk.to (by omega) (by omega) (by omega), lend_rule fun a W rep => again (i + 1, A1, c1) (by show i + 1 ≤ _; omega) (by show t.length - (i + 1) < t.length - i; omega) a W (rep.res.le (by (simp only [setn, List.nil_append, List.cons_append, leF, leH_nil, leH_cons, leF_nil, lk, scp, scpL, scpO, resF, resH, resO, resV, resVL, nth, Nat.reduceBEq, Nat.reduceLT, decide_true, decide_false, List.length, List.length_cons, List.length_nil, Nat.reduceAdd, Bool.and_self, Bool.and_true, and_true, true_and, numF] <;> try simp)) ?_)⟩⟩⟩
      (simp only [setn, List.nil_append, List.cons_append, leF, leH_nil, leH_cons, leF_nil, lk, scp, scpL, scpO, resF, resH, resO, resV, resVL, nth, Nat.reduceBEq, Nat.reduceLT, decide_true, decide_false, List.length, List.length_cons, List.length_nil, Nat.reduceAdd, Bool.and_self, Bool.and_true, and_true, true_and, numF] <;> try simp)
      rw [hbk, bkV]
      exact ⟨by rw [List.length_append]; rfl, rfl⟩
    ·have hil : i = t.length := by have := of_decide_eq_false hge; omega
     subst hil
     rw [List.take_length]
     rw [List.take_length] at hbl
     obtain ⟨q1, q2⟩ := asm_blanked r t hno
     have hol := asm_len t
     have hbs : (blanked r t).length ≤ 400000 := by omega
     generalize blanked r t = b at q1 q2 hbs
     have hasm := fun W (hW : Fresh w W) => assemble66 t W (by omega) (hG.keep hW) (hT.keep hW) (hLb.keep hW)
     have hasb := fun W (hW : Fresh w W) => assemble66 b W hbs (hG.keep hW) (hT.keep hW) (hLb.keep hW)
     generalize asmL t = res at q1 q2 hasm hol
     obtain ⟨out, lb, n⟩ := res
     generalize asmL b = res' at q1 q2 hasb
     obtain ⟨out', lb', n'⟩ := res'
     simp only at q1 q2 hasm hasb hol
     subst q1
     have hee : asmE n' = asmE n := by
      unfold asmE
      by_cases h0 : n = 0
      ·rw [if_pos h0, if_pos (q2.2 h0)]
      ·rw [if_neg h0, if_neg (fun e => h0 (q2.1 e))]
     refine call_rule (vs := [.string ⟨⟨t⟩⟩]) rfl (R := fun W v W' => ∃ (A : Option Addr) (c : Nat), v = .tuple #[.slice A out'.length c, .int .i64 (n : Nat), .int .i64 (asmE n)] ∧ World.ownsB W' W.heap.size 43 5 (.slice A out'.length c) out'.length (cellsI out') ∧ Fresh W W') (fun W hW => hasm W hW.fresh') fun W v W' hW ⟨A1, c1, hv, ho, hk⟩ => ?_
     have hmo := ownsB_max ho
     obtain ⟨A', c', e1, e2, e5, _⟩ := hW.gain ho hk
     injection e1 with e3 _ e4
     subst e3; subst e4; subst hv
     refine ⟨.tup [.own 1 0, .val (.int .i64 (n : Int)), .val (.int .i64 (asmE n))], _, ?_, e2, e5, ?_⟩
     ·simp only [Is, IsL]; exact ⟨_, ⟨_, _, ⟨_, _, _, _, _, _, _, rfl, Nat.le_refl _, ⟨_, _, _, rfl⟩, fun _ => rfl⟩, ⟨_, _, rfl, ⟨_, _, rfl, rfl, rfl⟩, rfl⟩, rfl⟩, rfl⟩
     clear e5 e2 hW ho hk
     (refine Y_go 600 ?_; dsimp only [zq8t, List.cons_append, List.nil_append, Y_k, zq4u, zq8o, zq6n, Nat.reduceBEq, zq6k, YK, zq5j, zq2f, nth, zq2e, zq6l, zq9i, normF, zq6m, zq86, zq8a, zq87, zq8f, zq89, zq9y, t4n13, T4n13, zq9r, zq9q, zq5n, zq35, zq09, zq08, zq2z, zq9j])
     refine ⟨⟨⟨b⟩⟩, ⟨rfl, rfl⟩, ?_⟩
     refine call_rule (vs := [.string ⟨⟨b⟩⟩]) rfl (R := fun W v W' => ∃ (A : Option Addr) (c : Nat), v = .tuple #[.slice A out'.length c, .int .i64 (n' : Nat), .int .i64 (asmE n')] ∧ World.ownsB W' W.heap.size 43 5 (.slice A out'.length c) out'.length (cellsI out') ∧ Fresh W W') (fun W hW => hasb W hW.fresh') fun W v W' hW ⟨A2, c2, hv, ho, hk⟩ => ?_
     obtain ⟨A', c', e1, e2, e5, _⟩ := hW.gain ho hk
     injection e1 with e3 _ e4
     subst e3; subst e4; subst hv
     refine ⟨.tup [.own 2 0, .val (.int .i64 (n' : Int)), .val (.int .i64 (asmE n'))], _, ?_, e2, e5, ?_⟩
     ·simp only [Is, IsL]; exact ⟨_, ⟨_, _, ⟨_, _, _, _, _, _, _, rfl, Nat.le_refl _, ⟨_, _, _, rfl⟩, fun _ => rfl⟩, ⟨_, _, rfl, ⟨_, _, rfl, rfl, rfl⟩, rfl⟩, rfl⟩, rfl⟩
     clear e5 e2 hW ho hk
     simp only [maxLen] at hmo
     rw [hee]
     (refine Y_go 600 ?_; dsimp only [zq8t, List.cons_append, List.nil_append, Y_k, zq4u, zq8o, zq6n, Nat.reduceBEq, zq6k, YK, zq5j, zq2f, nth, zq2e, zq6l, zq9i, normF, zq6m, zq86, zq8a, zq87, zq8f, zq89, zq9y, t4n12, T4n12, zq9r, zq9q, Y_gk, zq69, YR, zq50, zq04, zq92, zq9b, zq0i, zq9c, zq4v, zq8p, zq6p, zq0b, zq6d, zq9l, YG, YS, zq6b, zq0c, zq9x])
     refine ⟨fun _ => ?_, fun h => absurd h (by simp)⟩
     refine call_val (vs := [.slice A1 out'.length c1, .slice A2 out'.length c2]) (R := fun v => v = .bool (decide (out' = out'))) rfl (fun W hW => (same9 A1 A2 c1 c2 out' out' W (hW.rowAt (i := 1) rfl) (hW.rowAt (i := 2) rfl) (by omega)).mono fun v w' h => ⟨h.2, h.1⟩) fun v hv => ⟨.bt, by rw [hv]; simp [Is], ?_⟩
     (refine Y_go 600 ?_; dsimp only [zq8t, Y_k, zq4v, zq8o, zq6n, Nat.reduceBEq, zq6k, zq8p, zq6p, zq6l, zq0b, YK, zq4u, zq9i, normF, zq6m, zq86, zq8a, zq87, zq8f, zq89, zq9x])
     exact ret_rule (vs := [.bool true]) r4 rfl rfl fun W hW => hR _ _ ⟨hW.fresh', rfl⟩
end Go.Proofs.YtaiajnehnjnadaaDoor
