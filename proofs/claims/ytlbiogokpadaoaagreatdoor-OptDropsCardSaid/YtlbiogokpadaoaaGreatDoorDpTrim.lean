/- What is never reached, in the list of what is found. -/
import Derived.Test.YtlbiogokpadaoaaGreatDoorLpLook
import Derived.Test.YtlbiogokpadaoaaGreatDoorDpPlain
import Derived.Test.YtlbiogokpadaoaaGreatDoorDpW1
import Derived.Test.YtlbiogokpadaoaaGreatDoorRfLook
import Derived.Test.YtlbiogokpadaoaaGreatDoorBgCodeDrop
set_option linter.unusedSimpArgs false
set_option linter.unusedVariables false
set_option linter.unnecessarySimpa false
namespace Go.Proofs.YtlbiogokpadaoaaGreatDoor
open Go Go.Sx Go.Isa Go.Lint
set_option maxRecDepth 100000
theorem bad8 {l : List In} {p : Int} : BadP l 8 p ↔ 0 ≤ p ∧ p < l.length ∧ ¬ Go.Lint.Reach l (p, false) ∧ ¬ Go.Lint.Reach l (p, true) := by
 constructor
 ·rintro (⟨s, x, _, _, _, h⟩ | ⟨h, _⟩ | h)
  ·exfalso
   rcases h with ⟨h, _⟩ | ⟨_, h | ⟨h, _⟩⟩
   ·omega
   ·unfold fnd at h
    repeat' split at h
    all_goals simp at h
   ·omega
  ·omega
  ·exact h.2
 ·exact fun h => .inr (.inr ⟨rfl, h⟩)
theorem found8 {l : List In} {fs : List (Int × Int)} (hf : FoundOk l fs) {k : Nat} (hk : k < l.length) : decide ((8, (k : Int)) ∈ fs) = neverB l k := by
 unfold neverB
 rw [decide_eq_decide, hf.mem, bad8]
 exact ⟨fun h => h.2.2, fun h => ⟨by omega, by omega, h⟩⟩
def ng (fs : List (Int × Int)) (n i : Nat) : List Bool := (List.range n).map fun k : Nat => decide ((8, (k : Int)) ∈ fs.take i)
theorem ng_len (fs : List (Int × Int)) (n i : Nat) : (ng fs n i).length = n := by simp [ng]
theorem ng_zero (fs : List (Int × Int)) (n : Nat) : repN n [Value.bool false] = bV (ng fs n 0) := by
 rw [gl_zero (fun _ => false) n]
 simp [gl, ng]
theorem ng_same {fs : List (Int × Int)} {n i : Nat} {c p : Int} (hx : fs[i]? = some (c, p)) (hc : c ≠ 8) : ng fs n (i + 1) = ng fs n i := by
 unfold ng
 refine List.map_congr_left fun k _ => ?_
 rw [List.take_add_one, hx, decide_eq_decide]
 simp
 omega
theorem ng_set {fs : List (Int × Int)} {n i : Nat} {p : Int} (hx : fs[i]? = some (8, p)) (h0 : 0 ≤ p) : setn (bV (ng fs n i)) p.toNat (.bool true) = bV (ng fs n (i + 1)) := by
 rw [bV_set]
 congr 1
 refine List.ext_getElem (by simp [ng]) fun k h1 h2 => ?_
 rw [List.getElem_set]
 simp only [ng, List.getElem_map, List.getElem_range]
 rw [List.take_add_one, hx]
 split
 ·rename_i e; subst e
  simp
  omega
 ·rename_i e
  rw [decide_eq_decide]
  simp
  omega
theorem drop_ng {l : List In} {fs : List (Int × Int)} (hf : FoundOk l fs) : dropP (gB (ng fs l.length fs.length)) l = trimL l :=
 dropP_congr fun k hk => by
  rw [← found8 hf hk]
  simp [gB, ng, List.getD, hk]
end Go.Proofs.YtlbiogokpadaoaaGreatDoor
namespace Go.Proofs.YtlbiogokpadaoaaGreatDoor
open Go Go.Sx Go.Isa Go.Lint
set_option maxRecDepth 100000
theorem owns_len {w : World} {N : Nat} {t : TypeId} {sz n : Nat} {v : Value} {xs : List Value} (ho : World.ownsB w N t sz v n xs) : n ≤ maxLen := by
 obtain ⟨_, ⟨_, _, h0, _⟩ | ⟨g, b, cap, cur, _, _, _, h1, h2, _⟩⟩ := ho
 ·rw [h0]; exact Nat.zero_le _
 ·exact Nat.le_trans h1 h2
theorem trim64 (A : Option Addr) (c : Nat) (l : List In) (w : World) (hG : ShAt w) (hA : RowAt w A (cellsI l)) (hl : l.length ≤ 1024) :
  CallsV Tryz.prog 64 [.slice A l.length c] w fun v w' => World.ownsB w' w.heap.size 41 5 v (trimL l).length (cellsI (trimL l)) ∧ Fresh w w' := by
 refine calls_go (keep := K64) (nt := 37) (svs := [.val (.slice A l.length c)]) Tryz.func64 x64 n64 (by simp) (by simp [IsL, Is]) fun R hR => ?_
 (refine Y_go 600 ?_; dsimp only [X64, numF, Nat.reduceAdd, zq9q, zq9p, Y_k, zq4t, zq8o, zq6t, YK, zq8s, zq9h, normF, zq6m, Nat.reduceBEq, zq6k, zq6j, zq6l, zq85, zq86, zq9x, t64n7, T64n7, zq8n, zq9i])
 refine call_rule (vs := [.slice A l.length c]) rfl (R := fun W v W' => ∃ (A : Option Addr) (c : Nat) (fs : List (Int × Int)), FoundOk l fs ∧ v = .tuple #[.slice A fs.length c, .int .i64 0] ∧ World.ownsB W' W.heap.size 46 2 (.slice A fs.length c) fs.length (fsV fs) ∧ Fresh W W') (fun W hW => look95 l A c W hl (hA.keep hW.fresh') (hG.keep hW.fresh')) fun W v W' hW ⟨A1, c1, fs, hf, hv, ho, hk⟩ => ?_
 have hfl : fs.length ≤ maxLen := owns_len ho
 obtain ⟨A', c', e1, e2, e5, _⟩ := hW.gain ho hk
 injection e1 with e3 _ e4
 subst e3; subst e4; subst hv
 refine ⟨.tup [.own 0 0, .val (.int .i64 0)], _, ?_, e2, e5, ?_⟩
 ·simp only [Is, IsL]; exact ⟨_, ⟨_, _, ⟨_, _, _, _, _, _, _, rfl, Nat.le_refl _, ⟨_, _, _, rfl⟩, fun _ => rfl⟩, ⟨_, _, rfl, rfl, rfl⟩, rfl⟩, rfl⟩
 simp only [maxLen] at hfl
 clear e5 e2 hW ho hk
 (refine Y_go 600 ?_; dsimp only [zq8s, List.nil_append, Y_k, zq4t, zq8n, zq6m, Nat.reduceBEq, zq6j, YK, zq5i, zq2f, nth, zq2e, zq6k, zq9h, normF, zq6l, zq85, zq8e, zq86, zq9x, t64n6, T64n6, zq9q, zq9p, zq54, zq0r, zq66, zq06, zq4s, List.length_cons, List.length_nil, Nat.reduceAdd, List.cons_append, t64n5, T64n5, zq8o, zq6p, zq9s, zq9u])
 have hn1 : ((l.length : Nat) : Int).toNat = l.length := by omega
 refine ⟨⟨by omega, by omega, by omega, by omega⟩, fun g => ?_⟩
 rw [hn1, ng_zero fs]
 refine loop_go (α := Nat) (fun i => i ≤ fs.length) (fun _ => ⟨w, w.heap.size, [], 37, []⟩) (fun i => { F := [(0, .val (.slice A l.length c)), (3, .own 0 0), (5, .own 1 0), (6, .val (.int .i64 (i : Int)))], H := [.own 46 0 2 A1 fs.length c1 (fsV fs), .own 4 0 1 (some ⟨g, 0, none⟩) l.length l.length (bV (ng fs l.length i))] }) (fun i => fs.length - i) (fun _ => rfl) ?start ?round
 case start =>
  intro a W rep
  exact ⟨0, Nat.zero_le _, rep.le (by (simp only [setn, List.nil_append, List.cons_append, leF, leH_nil, leH_cons, leF_nil, lk, scp, scpL, scpO, resF, resH, resO, resV, resVL, nth, Nat.reduceBEq, Nat.reduceLT, decide_true, decide_false, List.length, List.length_cons, List.length_nil, Nat.reduceAdd, Bool.and_self, Bool.and_true, and_true, true_and, numF] <;> try simp)) (by (simp only [setn, List.nil_append, List.cons_append, leF, leH_nil, leH_cons, leF_nil, lk, scp, scpL, scpO, resF, resH, resO, resV, resVL, nth, Nat.reduceBEq, Nat.reduceLT, decide_true, decide_false, List.length, List.length_cons, List.length_nil, Nat.reduceAdd, Bool.and_self, Bool.and_true, and_true, true_and, numF] <;> try simp))⟩
 case round =>
  intro i hi I again
  have hi : i ≤ fs.length := hi
  (refine Y_go 600 ?_; dsimp only [zq9x, t64n3, T64n3, zq9q, zq9p, Y_k, zq4t, zq8n, zq6m, Nat.reduceBEq, zq6k, zq6j, YK, zq8s, zq54, zq0t, nth, zq09, zq08, zq0q, zq4z, zq04, zq91, zq9a, zq0i, zq9d, zq9h, normF, zq6l, zq85, zq86, zq8e, zq9r, zq6g, zq8w, YC, zq9o, t64n2, T64n2, zq9s, zq57, zq06, zq0y, zq0v, zq59, zq15, Nat.add_zero, zq13, zq5b, zq1q, zq1n, zq1c, List.nil_append, zq1b, zq18, zq8o, zq6p, zq9b, zq88, t64n0, T64n0, zq5c, zq6n, zq7u, zq7g, zq0a, zq1y, zq1w, denL, den, zq1v, splice, setn, zq8r, zqa0, t64n1, T64n1, zq4v, zq0e, zqa1, zq89, zq9t, popTo, zq6h, YP, t64n4, T64n4, zq9i])
  refine ⟨fun hlt => ?_, fun hge => ?_⟩
  ·have hil : i < fs.length := by have := of_decide_eq_true hlt; omega
   have hx : fs[i]? = some fs[i] := List.getElem?_eq_getElem hil
   generalize fs[i] = x at hx
   obtain ⟨xc, xp⟩ := x
   have hc := fsV_get fs i _ hx
   have hi1 : ((i : Nat) : Int).toNat = i := by omega
   obtain ⟨hp0, hp1, _⟩ := bad_fits (by omega) ((hf.mem xc xp).1 (List.mem_of_getElem? hx))
   rw [hi1]
   have hbl : xp.toNat * 1 + 1 ≤ (bV (ng fs l.length i)).length := by rw [bV_len, ng_len]; omega
   refine ⟨⟨by omega, by omega⟩, xc, hc.1, fun h8 => ⟨⟨by omega, by omega⟩, xp, hc.2, ⟨hp0, hp1⟩, hbl, ((i + 1 : Nat) : Int), ArOk.to (by omega) (by omega) (by omega), lend_rule fun a W rep => again (i + 1) (by show i + 1 ≤ _; omega) (by show fs.length - (i + 1) < fs.length - i; omega) a W (rep.le (by (simp only [setn, List.nil_append, List.cons_append, leF, leH_nil, leH_cons, leF_nil, lk, scp, scpL, scpO, resF, resH, resO, resV, resVL, nth, Nat.reduceBEq, Nat.reduceLT, decide_true, decide_false, List.length, List.length_cons, List.length_nil, Nat.reduceAdd, Bool.and_self, Bool.and_true, and_true, true_and, numF] <;> try simp)) ?_)⟩, fun h8 => ⟨((i + 1 : Nat) : Int), ArOk.to (by omega) (by omega) (by omega), lend_rule fun a W rep => again (i + 1) (by show i + 1 ≤ _; omega) (by show fs.length - (i + 1) < fs.length - i; omega) a W (rep.le (by (simp only [setn, List.nil_append, List.cons_append, leF, leH_nil, leH_cons, leF_nil, lk, scp, scpL, scpO, resF, resH, resO, resV, resVL, nth, Nat.reduceBEq, Nat.reduceLT, decide_true, decide_false, List.length, List.length_cons, List.length_nil, Nat.reduceAdd, Bool.and_self, Bool.and_true, and_true, true_and, numF] <;> try simp)) ?_)⟩⟩
   ·have h8 : xc = 8 := by simpa using h8
    subst h8
    rw [Nat.mul_one, ng_set hx hp0]; (simp only [setn, List.nil_append, List.cons_append, leF, leH_nil, leH_cons, leF_nil, lk, scp, scpL, scpO, resF, resH, resO, resV, resVL, nth, Nat.reduceBEq, Nat.reduceLT, decide_true, decide_false, List.length, List.length_cons, List.length_nil, Nat.reduceAdd, Bool.and_self, Bool.and_true, and_true, true_and, numF] <;> try simp)
   ·have h8 : xc ≠ 8 := by simpa using h8
    rw [ng_same hx h8]; (simp only [setn, List.nil_append, List.cons_append, leF, leH_nil, leH_cons, leF_nil, lk, scp, scpL, scpO, resF, resH, resO, resV, resVL, nth, Nat.reduceBEq, Nat.reduceLT, decide_true, decide_false, List.length, List.length_cons, List.length_nil, Nat.reduceAdd, Bool.and_self, Bool.and_true, and_true, true_and, numF] <;> try simp)
  ·have hil : i = fs.length := by have := of_decide_eq_false hge; omega
   subst hil
   refine call_own (vs := [.slice A l.length c, .slice (some ⟨g, 0, none⟩) l.length l.length]) rfl (fun W hW => drop94 A (some ⟨g, 0, none⟩) c l.length l (ng fs l.length fs.length) W (hA.keep hW.fresh') (hW.rowAt (i := 1) rfl) (by omega) (ng_len _ _ _)) fun A3 c3 => ?_
   rw [drop_ng hf]
   (refine Y_go 600 ?_; dsimp only [List.length_cons, List.length_nil, Nat.reduceAdd, zq8s, List.cons_append, List.nil_append, Y_k, zq4t, zq8n, zq6m, Nat.reduceBEq, zq6j, YK, zq9h, normF, zq6k, zq6l, zq85, zq89, zq86, zq8e, zq9w])
   exact ret_rule (vs := [_]) r64 rfl rfl fun W hW => hR _ _ ⟨hW.owns (i := 2) rfl, hW.fresh'⟩
end Go.Proofs.YtlbiogokpadaoaaGreatDoor
