/- LintPart: the statement, walked. -/
import Derived.Test.YtlbiogokpadaoaaGreatDoorPtPlain
import Derived.Test.YtlbiogokpadaoaaGreatDoorLaPlain
import Derived.Test.YtlbiogokpadaoaaGreatDoorPtCode
set_option linter.unusedSimpArgs false
set_option linter.unusedVariables false
set_option linter.unnecessarySimpa false
namespace Go.Proofs.YtlbiogokpadaoaaGreatDoor
open Go Go.Sx Go.Isa Go.Asm Go.Lint
set_option maxRecDepth 100000
def farB (n : Nat) (x : In) : Prop := legalB x = true ∧ 13 ≤ x.op ∧ x.op ≤ 16 ∧ (n : Int) ≤ x.imm ∧ x.imm ≤ 1024
theorem len_split {α : Type} (p : α → Bool) : ∀ l : List α, l.length = (l.filter p).length + (l.filter fun x => !p x).length
 | [] => rfl
 | x :: r => by
  have := len_split p r
  cases h : p x <;> simp [List.filter_cons, h] <;> omega
theorem some_lt9 {α : Type} {l : List α} {k : Nat} {x : α} (h : l[k]? = some x) : k < l.length := by
 rcases Nat.lt_or_ge k l.length with h' | h'
 ·exact h'
 ·rw [List.getElem?_eq_none h'] at h; cases h
theorem owns_le9 {w : World} {N : Nat} {t : TypeId} {sz n : Nat} {v : Value} {xs : List Value} (ho : World.ownsB w N t sz v n xs) : n ≤ maxLen := by
 obtain ⟨_, ⟨_, _, h0, _⟩ | ⟨g, b, cap, cur, _, _, _, h1, h2, _⟩⟩ := ho
 ·rw [h0]; exact Nat.zero_le _
 ·exact Nat.le_trans h1 h2
theorem rest9 (l m : List In) (A B : Option Addr) (c d : Nat) (w : World) (hl : l.length ≤ 200) (hm : m.length ≤ 200) (hs : Shut l) (hA : RowAt w A (cellsI l)) (hB : RowAt w B (cellsI m)) (hG : ShAt w) (R : Value → World → Prop) (hR : ∀ v w', Fresh w w' ∧ v = .bool true → R v w') (F : List (Nat × SV)) (hF : leF 0 F [(107, .val (.slice A l.length c)), (0, .val (.slice A l.length c)), (1, .val (.slice B m.length d)), (5, .bt)]) :
  G (cxOf Tryz.prog Tryz.f9 K9 T9 R) ⟨w, w.heap.size, [], 180, []⟩ [.ops [⟨some 108, none, .call 22 [.tmp 107]⟩, ⟨some 106, none, .k (.mov (.tmp 108))⟩, ⟨some 109, none, .k (.ext (.tmp 106) 0)⟩, ⟨some 110, none, .k (.ext (.tmp 106) 1)⟩, ⟨some 9, none, .k (.mov (.tmp 109))⟩, ⟨some 10, none, .k (.mov (.tmp 110))⟩], .code (.ref 25)] { F := F, H := [] } := by
 refine G.le (E' := ⟨w, w.heap.size, [], 180, []⟩) rfl (s' := { F := [(107, .val (.slice A l.length c)), (0, .val (.slice A l.length c)), (1, .val (.slice B m.length d)), (5, .bt)], H := [] }) (fun a W rep => rep.le hF (by (simp only [setn, List.nil_append, List.cons_append, leF, leH_nil, leH_cons, leF_nil, lk, scp, scpL, scpO, resF, resH, resO, resV, resVL, nth, Nat.reduceBEq, Nat.reduceLT, decide_true, decide_false, List.length, List.length_cons, List.length_nil, Nat.reduceAdd, Bool.and_self, Bool.and_true, and_true, true_and, numF] <;> try simp))) ?_
 refine call_rule (vs := [.slice A l.length c]) rfl (R := fun W v W' => ∃ (A : Option Addr) (c : Nat) (fs : List (Int × Int)), FoundOk l fs ∧ v = .tuple #[.slice A fs.length c, .int .i64 0] ∧ World.ownsB W' W.heap.size 46 2 (.slice A fs.length c) fs.length (fsV fs) ∧ Fresh W W') (fun W hW => look22F l A c W (by omega) (hA.keep hW.fresh') (hG.keep hW.fresh')) fun W v W' hW ⟨A1, c1, fs, hf, hv, ho, hk⟩ => ?_
 have hfl : fs.length ≤ maxLen := owns_le9 ho
 obtain ⟨A', c', e1, e2, e5, _⟩ := hW.gain ho hk
 injection e1 with e3 _ e4
 subst e3; subst e4; subst hv
 refine ⟨.tup [.own 0 0, .val (.int .i64 0)], _, ?_, e2, e5, ?_⟩
 ·simp only [Is, IsL]; exact ⟨_, ⟨_, _, ⟨_, _, _, _, _, _, _, rfl, Nat.le_refl _, ⟨_, _, _, rfl⟩, fun _ => rfl⟩, ⟨_, _, rfl, rfl, rfl⟩, rfl⟩, rfl⟩
 simp only [maxLen] at hfl
 clear e5 e2 hW ho hk
 (refine Y_go 600 ?_; dsimp only [zq8s, List.nil_append, Y_k, zq4t, zq8n, zq6m, Nat.reduceBEq, zq6j, YK, zq5i, zq2f, nth, zq2e, zq6k, zq9h, normF, zq6l, zq85, zq86, zq8e, zq88, zq9x, t9n25, T9n25, zq9q, zq9p, zq5g, List.map, zq6p, repL, zq24, zq26, List.length_cons, List.length_nil, Nat.reduceAdd, List.cons_append, zq5k, zq2w, zq2t, Nat.reduceMul, denL, zq2s, zq2q, zq2o, zq2i, setn, zq2v, zq09, zq08, zq2r, zq9a, zq2h, t9n24, T9n24, zq9i])
 refine fun g => ?_
 have rdA := hA.rd (nt := 180) (oneI l)
 rw [cellsI_len] at rdA
 have rdB := hB.rd (nt := 180) (oneI m)
 rw [cellsI_len] at rdB
 refine ⟨_, rdA, ⟨by simp only [maxLen]; omega, by omega⟩, fun A3 c3 => ⟨_, rdB, ⟨by simp only [maxLen]; omega, by omega⟩, fun A2 c2 => ?_⟩⟩
 have hn0 : 0 + l.length + m.length = (l ++ m).length := by rw [List.length_append]; omega
 rw [hn0, ← cellsI_app]
 have hlm : (l ++ m).length ≤ 400 := by rw [← hn0]; omega
 have happ : ∀ gs, FoundOk (l ++ m) gs → gs.filter (inP l.length) = fs ∧ (gs.filter fun x => !inP l.length x) = newP l.length m.length := fun gs h => found_app (by omega) hs hf h
 clear rdA rdB
 generalize l ++ m = lm at hlm happ
 refine call_rule (vs := [.slice A2 lm.length c2]) rfl (R := fun W v W' => ∃ (A : Option Addr) (c : Nat) (fs : List (Int × Int)), FoundOk lm fs ∧ v = .tuple #[.slice A fs.length c, .int .i64 0] ∧ World.ownsB W' W.heap.size 46 2 (.slice A fs.length c) fs.length (fsV fs) ∧ Fresh W W') (fun W hW => look22F lm A2 c2 W (by omega) (hW.rowAt (i := 2) rfl) (hG.keep hW.fresh')) fun W v W' hW ⟨A4, c4, gs, hg, hv, ho, hk⟩ => ?_
 have hgl : gs.length ≤ maxLen := owns_le9 ho
 obtain ⟨A', c', e1, e2, e5, _⟩ := hW.gain ho hk
 injection e1 with e3 _ e4
 subst e3; subst e4; subst hv
 refine ⟨.tup [.own 3 0, .val (.int .i64 0)], _, ?_, e2, e5, ?_⟩
 ·simp only [Is, IsL]; exact ⟨_, ⟨_, _, ⟨_, _, _, _, _, _, _, rfl, Nat.le_refl _, ⟨_, _, _, rfl⟩, fun _ => rfl⟩, ⟨_, _, rfl, rfl, rfl⟩, rfl⟩, rfl⟩
 simp only [maxLen] at hgl
 clear e5 e2 hW ho hk
 obtain ⟨k1, k2⟩ := happ gs hg
 clear happ hg hf
 (refine Y_go 600 ?_; dsimp only [zq8s, List.cons_append, List.nil_append, Y_k, zq4t, zq8n, zq6m, Nat.reduceBEq, zq6j, YK, zq5i, zq2f, nth, zq2e, zq6k, zq9h, normF, zq6l, zq85, zq86, zq8e, zq88, zq9x, t9n23, T9n23, zq9q, zq9p, zq4z, zq8o, zq6p, zq04, zq91, zq9a, zq0i, zq9c, Y_gk, zq6d, YS, zq69, zq4u, zq6n, zq0b, zq9r, zq6e, YC, t9n10, T9n10, zq6o, zq89, zq9w, YR, zq6b, zq0c, zq6g, zq8w, zq9o, t9n22, T9n22, t9n21, T9n21, zq54, zq0t, zq09, zq08, zq0q, zq9s, zq9u])
 refine ⟨fun h => absurd h (by decide), fun _ => ⟨fun h => absurd h (by decide), fun _ => ?_⟩⟩
 refine loop_go (α := Nat) (fun i => i ≤ gs.length) (fun _ => ⟨w, w.heap.size, [], 180, []⟩) (fun i => { F := [(0, .val (.slice A l.length c)), (1, .val (.slice B m.length d)), (5, .bt), (9, .own 0 0), (12, .own 3 0), (14, .val (.int .i64 (((gs.take i).filter (inP l.length)).length : Nat))), (128, .val (.int .i64 gs.length)), (129, .val (.int .i64 (i : Int)))], H := [.own 46 0 2 A1 fs.length c1 (fsV fs), .gone g, .own 41 1 5 A2 lm.length c2 (cellsI lm), .own 46 0 2 A4 gs.length c4 (fsV gs)] }) (fun i => gs.length - i) (fun _ => rfl) ?start ?round
 case start =>
  intro a W rep
  exact ⟨0, Nat.zero_le _, rep.le (by (simp only [setn, List.nil_append, List.cons_append, leF, leH_nil, leH_cons, leF_nil, lk, scp, scpL, scpO, resF, resH, resO, resV, resVL, nth, Nat.reduceBEq, Nat.reduceLT, decide_true, decide_false, List.length, List.length_cons, List.length_nil, Nat.reduceAdd, Bool.and_self, Bool.and_true, and_true, true_and, numF] <;> try simp)) (by (simp only [setn, List.nil_append, List.cons_append, leF, leH_nil, leH_cons, leF_nil, lk, scp, scpL, scpO, resF, resH, resO, resV, resVL, nth, Nat.reduceBEq, Nat.reduceLT, decide_true, decide_false, List.length, List.length_cons, List.length_nil, Nat.reduceAdd, Bool.and_self, Bool.and_true, and_true, true_and, numF] <;> try simp))⟩
 case round =>
  intro i hi I again
  have hi : i ≤ gs.length := hi
  (refine Y_go 600 ?_; dsimp only [zq9x, t9n19, T9n19, zq9q, zq9p, Y_k, zq4z, zq8n, zq6m, Nat.reduceBEq, zq6k, zq6j, zq04, zq91, zq9a, zq0i, zq9d, YK, zq8s, zq9h, normF, zq6l, zq85, zq86, zq8e, zq88, t9n18, T9n18, zq9r, zq6g, zq8w, YC, zq9o, t9n17, T9n17, zq9s, zq4t, t9n16, T9n16, zq57, zq06, zq0y, nth, zq09, zq08, zq0v, zq59, zq15, zq13, zq5b, zq1q, zq1n, zq1c, List.nil_append, zq1b, zq18, zq54, zq0r, zq9g, t9n12, T9n12, Nat.add_zero, zq8o, zq6p, zq9c, t9n11, T9n11, zq6o, zq89, zq9w, zq9t, popTo, zq6h, YP, zq4v, zq0e, zqa1, t9n15, T9n15, zq0t, zq0q, Y_gk, zq6d, YS, zq69, zq4u, zq6n, zq0b, zq6e, t9n13, T9n13, YR, zq6b, List.cons_append, zq17, zq5r, zq3n, eqSV, zq3o, zq0c, t9n14, T9n14, zqa0, t9n20, T9n20, zq68, zq9b, zq6c, zq6a])
  refine ⟨fun hlt => ?_, fun hge => ?_⟩
  ·have hil : i < gs.length := by have := of_decide_eq_true hlt; omega
   have hx : gs[i]? = some gs[i] := List.getElem?_eq_getElem hil
   have htk : gs.take (i + 1) = gs.take i ++ [gs[i]] := by rw [List.take_add_one, hx]; rfl
   have hnw : inP l.length gs[i] = false → gs[i].1 = 8 := fun h => by
    have : gs[i] ∈ gs.filter fun x => !inP l.length x := List.mem_filter.2 ⟨List.getElem_mem hil, by simp [h]⟩
    rw [k2] at this
    unfold newP at this
    obtain ⟨k, _, e⟩ := List.mem_map.1 this
    rw [← e]
   have hsame : inP l.length gs[i] = true → fs[((gs.take i).filter (inP l.length)).length]? = some gs[i] := fun h => by
    have e : gs = gs.take i ++ gs[i] :: gs.drop (i + 1) := by rw [← List.drop_eq_getElem_cons hil, List.take_append_drop]
    have e2 : fs = (gs.take i).filter (inP l.length) ++ gs[i] :: (gs.drop (i + 1)).filter (inP l.length) := by
     rw [← k1]
     conv => lhs; rw [e]
     rw [List.filter_append, List.filter_cons, if_pos h]
    conv => lhs; rw [e2]
    rw [List.getElem?_append_right (Nat.le_refl _), Nat.sub_self]; rfl
   generalize gs[i] = x at hx htk hnw hsame
   obtain ⟨xc, xp⟩ := x
   have hc := fsV_get gs i _ hx
   have hi1 : ((i : Nat) : Int).toNat = i := by omega
   rw [hi1]
   have hf1 : ((((gs.take i).filter (inP l.length)).length : Nat) : Int).toNat = ((gs.take i).filter (inP l.length)).length := by omega
   have hnn : ((gs.take i).filter (inP l.length)).length ≤ i := by have := List.length_filter_le (inP l.length) (gs.take i); rw [List.length_take] at this; omega
   refine ⟨⟨by omega, by omega⟩, xp, hc.2, fun hge => ⟨⟨by omega, by omega⟩, xc, hc.1, fun h8 => ?_, fun h8 => ⟨((i + 1 : Nat) : Int), ArOk.to (by omega) (by omega) (by omega), lend_rule fun a W rep => again (i + 1) (by show i + 1 ≤ _; omega) (by show gs.length - (i + 1) < gs.length - i; omega) a W (rep.le ?_ (by (simp only [setn, List.nil_append, List.cons_append, leF, leH_nil, leH_cons, leF_nil, lk, scp, scpL, scpO, resF, resH, resO, resV, resVL, nth, Nat.reduceBEq, Nat.reduceLT, decide_true, decide_false, List.length, List.length_cons, List.length_nil, Nat.reduceAdd, Bool.and_self, Bool.and_true, and_true, true_and, numF] <;> try simp)))⟩⟩, fun hge => ?_⟩
   ·have hin : inP l.length (xc, xp) = false := by have := of_decide_eq_true hge; unfold inP; simp; omega
    have := hnw hin
    have h8 : xc ≠ 8 := by simpa using h8
    exact absurd this h8
   ·have hin : inP l.length (xc, xp) = false := by have := of_decide_eq_true hge; unfold inP; simp; omega
    rw [htk, List.filter_append, List.filter_cons, if_neg (by simp [hin]), List.filter_nil, List.append_nil]
    (simp only [setn, List.nil_append, List.cons_append, leF, leH_nil, leH_cons, leF_nil, lk, scp, scpL, scpO, resF, resH, resO, resV, resVL, nth, Nat.reduceBEq, Nat.reduceLT, decide_true, decide_false, List.length, List.length_cons, List.length_nil, Nat.reduceAdd, Bool.and_self, Bool.and_true, and_true, true_and, numF] <;> try simp)
   ·have hin : inP l.length (xc, xp) = true := by have := of_decide_eq_false hge; unfold inP; simp; omega
    have hfx := hsame hin
    have hfn := some_lt9 hfx
    have hd := fsV_get fs _ _ hfx
    refine ⟨fun h => by have := of_decide_eq_true h; omega, fun _ => ⟨⟨by omega, by omega⟩, xc, hc.1, xp, hc.2, ⟨by omega, by omega⟩, xc, by rw [hf1]; exact hd.1, xp, by rw [hf1]; exact hd.2, fun h => absurd h (by simp), fun _ => ⟨((((gs.take i).filter (inP l.length)).length + 1 : Nat) : Int), ArOk.to (by omega) (by omega) (by omega), ((i + 1 : Nat) : Int), ArOk.to (by omega) (by omega) (by omega), lend_rule fun a W rep => again (i + 1) (by show i + 1 ≤ _; omega) (by show gs.length - (i + 1) < gs.length - i; omega) a W (rep.le ?_ (by (simp only [setn, List.nil_append, List.cons_append, leF, leH_nil, leH_cons, leF_nil, lk, scp, scpL, scpO, resF, resH, resO, resV, resVL, nth, Nat.reduceBEq, Nat.reduceLT, decide_true, decide_false, List.length, List.length_cons, List.length_nil, Nat.reduceAdd, Bool.and_self, Bool.and_true, and_true, true_and, numF] <;> try simp)))⟩⟩⟩
    rw [htk, List.filter_append, List.filter_cons, if_pos hin, List.filter_nil, List.length_append, List.length_singleton]
    (simp only [setn, List.nil_append, List.cons_append, leF, leH_nil, leH_cons, leF_nil, lk, scp, scpL, scpO, resF, resH, resO, resV, resVL, nth, Nat.reduceBEq, Nat.reduceLT, decide_true, decide_false, List.length, List.length_cons, List.length_nil, Nat.reduceAdd, Bool.and_self, Bool.and_true, and_true, true_and, numF] <;> try simp)
  ·have hil : i = gs.length := by have := of_decide_eq_false hge; omega
   subst hil
   rw [List.take_length, k1]
   have hlen : gs.length = fs.length + m.length := by
    have := len_split (inP l.length) gs
    rw [k1, k2] at this
    unfold newP at this
    simpa using this
   refine ⟨fun _ => ⟨((gs.length : Nat) : Int), ArOk.to (by omega) (by omega) (by omega), ret_rule (vs := [.bool ((gs.length : Int) == (gs.length : Int))]) r9 rfl rfl fun W hW => hR _ _ ⟨hW.fresh', by simp [tupOf]⟩⟩, fun h => absurd h (by simp)⟩
theorem part9 (l m : List In) (A B : Option Addr) (c d : Nat) (w : World) (hA : RowAt w A (cellsI l)) (hB : RowAt w B (cellsI m)) (hG : ShAt w) (hN : NmAt w) (hT : TabAt w) (hL : LibAt w) :
  CallsV Tryz.prog 9 [.slice A l.length c, .slice B m.length d] w fun v w' => Fresh w w' ∧ v = .bool true := by
 refine calls_go (keep := K9) (nt := 180) (svs := [.val (.slice A l.length c), .val (.slice B m.length d)]) Tryz.func9 x9 n9 (by simp) (by simp [IsL, Is]) fun R hR => ?_
 (refine Y_go 600 ?_; dsimp only [X9, numF, Nat.reduceAdd, zq9q, zq9p, Y_k, zq4t, zq8o, zq6o, YK, zq8s, zq9h, normF, zq6m, Nat.reduceBEq, zq6k, zq6j, zq6l, zq85, zq89, zq86, zq9x, t9n31, T9n31, zq9i])
 refine call_val (vs := []) rfl (fun W hW => alive20 W (hG.keep hW.fresh') (hN.keep hW.fresh') (hT.keep hW.fresh') (hL.keep hW.fresh')) fun v hv => ⟨.bt, by rw [hv]; simp [Is], ?_⟩
 (refine Y_go 600 ?_; dsimp only [zq8s, Y_k, zq4t, zq8n, zq6m, Nat.reduceBEq, zq6j, YK, zq9h, normF, zq6k, zq6l, zq85, zq88, zq89, zq86, zq9x, t9n30, T9n30, zq9q, zq9p, zq54, zq0r, zq4z, zq8o, zq6p, zq04, zq91, zq9a, zq0i, zq9f, Y_gk, zq6d, YS, zq69, zq4u, zq6n, zq0b, zq9r, zq6e, YC, t9n0, T9n0, zq9w, YR, zq6b, zq0c, zq52, zq0m, zq6f, zq9o, t9n29, T9n29, zq9s, zq9u])
 have done : ∀ F H, denAll H F [4] = some [.bool true] → RetG (cxOf Tryz.prog Tryz.f9 K9 T9 R) ⟨w, w.heap.size, [], 180, []⟩ { F := F, H := H } := fun F H hd =>
  ret_rule (vs := [.bool true]) r9 rfl hd fun W hW => hR _ _ ⟨hW.fresh', rfl⟩
 refine ⟨fun _ => done _ _ rfl, fun h1 => ⟨fun _ => done _ _ rfl, fun h2 => ?_⟩⟩
 have hl : l.length ≤ 200 := by have := of_decide_eq_false h1; omega
 have hm : m.length ≤ 200 := by have := of_decide_eq_false h2; omega
 refine loop_go (α := Nat) (fun i => i ≤ l.length ∧ ∀ x ∈ l.take i, ¬ farB l.length x) (fun _ => ⟨w, w.heap.size, [], 180, []⟩) (fun i => { F := [(0, .val (.slice A l.length c)), (1, .val (.slice B m.length d)), (5, .bt), (31, .val (.int .i64 l.length)), (32, .val (.int .i64 (i : Int)))], H := [] }) (fun i => l.length - i) (fun _ => rfl) ?start ?round
 case start =>
  intro a W rep
  exact ⟨0, ⟨Nat.zero_le _, by simp⟩, rep.le (by (simp only [setn, List.nil_append, List.cons_append, leF, leH_nil, leH_cons, leF_nil, lk, scp, scpL, scpO, resF, resH, resO, resV, resVL, nth, Nat.reduceBEq, Nat.reduceLT, decide_true, decide_false, List.length, List.length_cons, List.length_nil, Nat.reduceAdd, Bool.and_self, Bool.and_true, and_true, true_and, numF] <;> try simp)) (by (simp only [setn, List.nil_append, List.cons_append, leF, leH_nil, leH_cons, leF_nil, lk, scp, scpL, scpO, resF, resH, resO, resV, resVL, nth, Nat.reduceBEq, Nat.reduceLT, decide_true, decide_false, List.length, List.length_cons, List.length_nil, Nat.reduceAdd, Bool.and_self, Bool.and_true, and_true, true_and, numF] <;> try simp))⟩
 case round =>
  rintro i ⟨hi, hno⟩ I again
  (refine Y_go 600 ?_; dsimp only [zq9x, t9n7, T9n7, zq9q, zq9p, Y_k, zq4z, zq8n, zq6m, Nat.reduceBEq, zq6k, zq6j, zq04, zq91, zq9a, zq0i, zq9d, YK, zq8s, zq9h, normF, zq6l, zq85, zq86, zq88, t9n6, T9n6, zq9r, zq6g, zq8w, YC, zq9o, t9n5, T9n5, zq9s, zq4t, t9n4, T9n4, zq57, zq06, zq0w, zq5b, zq1p, zq1c, List.nil_append, List.cons_append, zq1b, zq17, zq9i, zq9t, popTo, zq6h, YP, t9n28, T9n28, zq54, zq0r, zq8o, zq6p, zq9f, Y_gk, zq6c, YR, zq68, zq4v, zq0e, zq59, zq16, Nat.add_zero, zq18, zq9c, zq4u, zq6o, zq0b, zq89, t9n8, T9n8, zq9w, t9n27, T9n27, zq9b, t9n9, T9n9, t9n26, T9n26, YS, zq6a, zq0c, zq6f])
  refine ⟨fun hlt => ?_, fun hge => ?_⟩
  ·have hlt : i < l.length := by have := of_decide_eq_true hlt; omega
   have hx : l[i]? = some l[i] := List.getElem?_eq_getElem hlt
   have htk : l.take (i + 1) = l.take i ++ [l[i]] := by rw [List.take_add_one, hx]; rfl
   have cl : ∀ k v, k < 5 → (l[i]).cells[k]? = some v → CellAt ⟨w, w.heap.size, [], 180, []⟩ A (i * 5 + k) v := fun k v hk hv => hA.cell (by rw [cellsI_get l hlt hk]; exact hv)
   have sA := someI hA hlt
   generalize l[i] = x at cl htk
   have hi1 : ((i : Nat) : Int).toNat = i := by omega
   have nxt : ¬ farB l.length x → ∀ F, leF 0 F [(0, .val (.slice A l.length c)), (1, .val (.slice B m.length d)), (5, .bt), (31, .val (.int .i64 l.length)), (32, .val (.int .i64 ((i + 1 : Nat) : Int)))] → G (cxOf Tryz.prog Tryz.f9 K9 T9 R) ⟨w, w.heap.size, [], 180, []⟩ [.lend I, .blk 0, .code (.ref 28)] { F := F, H := [] } := fun h F hF =>
    lend_rule fun a W rep => again (i + 1) ⟨by omega, by
     rw [htk]
     intro y hy
     rcases List.mem_append.1 hy with hy | hy
     ·exact hno y hy
     ·rw [List.mem_singleton.1 hy]; exact h⟩ (by omega) a W (rep.le hF (by (simp only [setn, List.nil_append, List.cons_append, leF, leH_nil, leH_cons, leF_nil, lk, scp, scpL, scpO, resF, resH, resO, resV, resVL, nth, Nat.reduceBEq, Nat.reduceLT, decide_true, decide_false, List.length, List.length_cons, List.length_nil, Nat.reduceAdd, Bool.and_self, Bool.and_true, and_true, true_and, numF] <;> try simp)))
   rw [hi1]
   refine ⟨⟨by omega, by omega, sA⟩, _, cl 0 _ (by omega) rfl, _, cl 1 _ (by omega) rfl, _, cl 2 _ (by omega) rfl, _, cl 3 _ (by omega) rfl, _, cl 4 _ (by omega) rfl, ?_⟩
   refine call_val (vs := [In.val x]) rfl (fun W hW => legal21 x W (hG.keep hW.fresh')) fun v hv => ⟨.val (.bool (legalB x)), by rw [hv]; simp [Is], ?_⟩
   (refine Y_go 600 ?_; dsimp only [zq8s, Y_k, zq4t, zq8n, zq6m, Nat.reduceBEq, zq6j, YK, zq9h, normF, zq6k, zq6l, zq85, zq88, zq86, zq9x, t9n3, T9n3, zq9q, zq9p, zq57, zq06, zq0w, zq59, zq16, Nat.add_zero, zq5b, zq1p, zq1c, List.nil_append, zq1b, zq18, zq4z, zq8o, zq6p, zq04, zq91, zq9a, zq0i, zq9g, Y_gk, zq6c, YR, zq68, zq9e, zq4u, zq6o, zq0b, zq54, zq0r, t9n2, T9n2, zq9r, zq6g, zq8w, YC, t9n1, T9n1, zq9w, zq9o, zqa0, zq4v, zq0e, zq89, zqa1, YS, zq0c, zq6f, zq6a])
   rw [hi1]
   refine ⟨⟨by omega, by omega, sA⟩, sA, _, cl 0 _ (by omega) rfl, fun h13 => ⟨⟨by omega, by omega, sA⟩, sA, _, cl 0 _ (by omega) rfl, fun h16 => ⟨⟨by omega, by omega, sA⟩, sA, _, cl 4 _ (by omega) rfl, fun hge => ⟨⟨by omega, by omega, sA⟩, sA, _, cl 4 _ (by omega) rfl,
    fun hlg => ⟨fun hk => done _ _ rfl, fun hk => ⟨_, .add64 (by omega) (by omega), nxt (fun q => of_decide_eq_false hk q.2.2.2.2) _ (by (simp only [setn, List.nil_append, List.cons_append, leF, leH_nil, leH_cons, leF_nil, lk, scp, scpL, scpO, resF, resH, resO, resV, resVL, nth, Nat.reduceBEq, Nat.reduceLT, decide_true, decide_false, List.length, List.length_cons, List.length_nil, Nat.reduceAdd, Bool.and_self, Bool.and_true, and_true, true_and, numF] <;> try simp))⟩⟩,
    fun hlg => ⟨_, .add64 (by omega) (by omega), nxt (fun q => by rw [q.1] at hlg; cases hlg) _ (by (simp only [setn, List.nil_append, List.cons_append, leF, leH_nil, leH_cons, leF_nil, lk, scp, scpL, scpO, resF, resH, resO, resV, resVL, nth, Nat.reduceBEq, Nat.reduceLT, decide_true, decide_false, List.length, List.length_cons, List.length_nil, Nat.reduceAdd, Bool.and_self, Bool.and_true, and_true, true_and, numF] <;> try simp))⟩⟩,
    fun hge => ⟨fun hlg => ⟨_, .add64 (by omega) (by omega), nxt (fun q => of_decide_eq_false hge q.2.2.2.1) _ (by (simp only [setn, List.nil_append, List.cons_append, leF, leH_nil, leH_cons, leF_nil, lk, scp, scpL, scpO, resF, resH, resO, resV, resVL, nth, Nat.reduceBEq, Nat.reduceLT, decide_true, decide_false, List.length, List.length_cons, List.length_nil, Nat.reduceAdd, Bool.and_self, Bool.and_true, and_true, true_and, numF] <;> try simp))⟩, fun hlg => ⟨_, .add64 (by omega) (by omega), nxt (fun q => of_decide_eq_false hge q.2.2.2.1) _ (by (simp only [setn, List.nil_append, List.cons_append, leF, leH_nil, leH_cons, leF_nil, lk, scp, scpL, scpO, resF, resH, resO, resV, resVL, nth, Nat.reduceBEq, Nat.reduceLT, decide_true, decide_false, List.length, List.length_cons, List.length_nil, Nat.reduceAdd, Bool.and_self, Bool.and_true, and_true, true_and, numF] <;> try simp))⟩⟩⟩,
    fun h16 => ⟨fun hlg => ⟨_, .add64 (by omega) (by omega), nxt (fun q => of_decide_eq_false h16 q.2.2.1) _ (by (simp only [setn, List.nil_append, List.cons_append, leF, leH_nil, leH_cons, leF_nil, lk, scp, scpL, scpO, resF, resH, resO, resV, resVL, nth, Nat.reduceBEq, Nat.reduceLT, decide_true, decide_false, List.length, List.length_cons, List.length_nil, Nat.reduceAdd, Bool.and_self, Bool.and_true, and_true, true_and, numF] <;> try simp))⟩, fun hlg => ⟨_, .add64 (by omega) (by omega), nxt (fun q => of_decide_eq_false h16 q.2.2.1) _ (by (simp only [setn, List.nil_append, List.cons_append, leF, leH_nil, leH_cons, leF_nil, lk, scp, scpL, scpO, resF, resH, resO, resV, resVL, nth, Nat.reduceBEq, Nat.reduceLT, decide_true, decide_false, List.length, List.length_cons, List.length_nil, Nat.reduceAdd, Bool.and_self, Bool.and_true, and_true, true_and, numF] <;> try simp))⟩⟩⟩,
    fun h13 => ⟨fun hlg => ⟨_, .add64 (by omega) (by omega), nxt (fun q => of_decide_eq_false h13 q.2.1) _ (by (simp only [setn, List.nil_append, List.cons_append, leF, leH_nil, leH_cons, leF_nil, lk, scp, scpL, scpO, resF, resH, resO, resV, resVL, nth, Nat.reduceBEq, Nat.reduceLT, decide_true, decide_false, List.length, List.length_cons, List.length_nil, Nat.reduceAdd, Bool.and_self, Bool.and_true, and_true, true_and, numF] <;> try simp))⟩, fun hlg => ⟨_, .add64 (by omega) (by omega), nxt (fun q => of_decide_eq_false h13 q.2.1) _ (by (simp only [setn, List.nil_append, List.cons_append, leF, leH_nil, leH_cons, leF_nil, lk, scp, scpL, scpO, resF, resH, resO, resV, resVL, nth, Nat.reduceBEq, Nat.reduceLT, decide_true, decide_false, List.length, List.length_cons, List.length_nil, Nat.reduceAdd, Bool.and_self, Bool.and_true, and_true, true_and, numF] <;> try simp))⟩⟩⟩
  ·have hil : i = l.length := by have := of_decide_eq_false hge; omega
   subst hil
   rw [List.take_length] at hno
   have hsh : 0 < l.length → (∀ x, l[l.length - 1]? = some x → x.op = 1 ∨ x.op = 13) → Shut l := fun h0 h1 => ⟨fun x hx hlg ⟨q1, q2, q3, q4⟩ => hno x hx ⟨hlg, q1, q2, q3, q4⟩, h0, h1⟩
   refine ⟨fun hpos => ?_, fun hneg => ⟨fun _ => done _ _ rfl, fun h0 => ?_⟩⟩
   ·have hpos : 0 < l.length := by have := of_decide_eq_true hpos; omega
    have hx : l[l.length - 1]? = some l[l.length - 1] := List.getElem?_eq_getElem (by omega)
    have c0 : CellAt ⟨w, w.heap.size, [], 180, []⟩ A ((l.length - 1) * 5) (.int .i64 (l[l.length - 1]).op) := cellI hA (by omega) (k := 0) rfl
    have sA := someI hA hpos
    generalize l[l.length - 1] = x at hx c0
    have e1 : (((l.length - 1 : Nat) : Int)).toNat = l.length - 1 := by omega
    have lst : x.op = 1 ∨ x.op = 13 → Shut l := fun h => hsh hpos fun y hy => by rw [hx] at hy; injection hy with hy; rw [← hy]; exact h
    refine ⟨((l.length - 1 : Nat) : Int), ArOk.toSub (by omega) (by omega) (by omega), ⟨by omega, by omega, sA⟩, sA, x.op, by rw [e1]; exact c0, fun n1 => ⟨((l.length - 1 : Nat) : Int), ArOk.toSub (by omega) (by omega) (by omega), ⟨by omega, by omega, sA⟩, sA, x.op, by rw [e1]; exact c0, fun n13 => done _ _ rfl, fun n13 => ⟨fun h0 => done _ _ rfl, fun h0 => rest9 l m A B c d w hl hm (lst (.inr (by simpa using n13))) hA hB hG R (fun v w' h => hR _ _ h) _ (by (simp only [setn, List.nil_append, List.cons_append, leF, leH_nil, leH_cons, leF_nil, lk, scp, scpL, scpO, resF, resH, resO, resV, resVL, nth, Nat.reduceBEq, Nat.reduceLT, decide_true, decide_false, List.length, List.length_cons, List.length_nil, Nat.reduceAdd, Bool.and_self, Bool.and_true, and_true, true_and, numF] <;> try simp))⟩⟩,
     fun n1 => ⟨fun h0 => done _ _ rfl, fun h0 => rest9 l m A B c d w hl hm (lst (.inl (by simpa using n1))) hA hB hG R (fun v w' h => hR _ _ h) _ (by (simp only [setn, List.nil_append, List.cons_append, leF, leH_nil, leH_cons, leF_nil, lk, scp, scpL, scpO, resF, resH, resO, resV, resVL, nth, Nat.reduceBEq, Nat.reduceLT, decide_true, decide_false, List.length, List.length_cons, List.length_nil, Nat.reduceAdd, Bool.and_self, Bool.and_true, and_true, true_and, numF] <;> try simp))⟩⟩
   ·have := of_decide_eq_false hneg
    have h0 : ¬ ((l.length : Int) = 0) := by simpa using h0
    omega
end Go.Proofs.YtlbiogokpadaoaaGreatDoor
