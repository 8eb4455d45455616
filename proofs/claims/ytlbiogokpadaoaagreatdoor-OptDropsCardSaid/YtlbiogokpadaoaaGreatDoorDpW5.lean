/- opt.Skip. -/
import Derived.Test.YtlbiogokpadaoaaGreatDoorDpW4
import Derived.Test.YtlbiogokpadaoaaGreatDoorBgOne
import Derived.Test.YtlbiogokpadaoaaGreatDoorSxGhost
import Derived.Test.YtlbiogokpadaoaaGreatDoorBgCodeDrop
import Derived.Test.YtlbiogokpadaoaaGreatDoorDpTrim
import Derived.Test.YtlbiogokpadaoaaGreatDoorBgCodeThr
set_option linter.unusedSimpArgs false
set_option linter.unusedVariables false
set_option linter.unnecessarySimpa false
namespace Go.Proofs.YtlbiogokpadaoaaGreatDoor
open Go Go.Sx Go.Isa
set_option maxRecDepth 100000
structure S57 where
 m : List In
 A : Option Addr
 c : Nat
theorem ok86 : fnOk Tryz.prog 86 = true := by kernel_rfl
theorem ok87 : fnOk Tryz.prog 87 = true := by kernel_rfl
theorem skip57 (l : List In) (hl : l.length ≤ 2000) : PassOk 57 [] l (ansP skipL l) := by
 intro A c w hG hA
 refine calls_go (keep := K57) (nt := 21) (svs := [.val (.slice A l.length c)]) Tryz.func57 x57 n57 (by simp) (by simp [IsL, Is]) fun R hR => ?_
 (refine Y_go 600 ?_; dsimp only [X57, numF, Nat.reduceAdd, zq9q, zq9p, Y_k, zq4t, zq8o, zq6t, YK, zq8s, zq6p, zq9h, normF, zq6m, Nat.reduceBEq, zq6k, zq6j, zq6l, zq85, zq86, zq9x, t57n5, T57n5, zq8n, zq54, zq0r, zq4z, zq04, zq91, zq9a, zq0i, zq9f, zq9r, zq6g, zq8w, YC, t57n0, T57n0, zq88, zq9w, zq9o, t57n4, T57n4, zq9i])
 refine ⟨fun h => ?_, fun h => ?_⟩
 ·have h := of_decide_eq_true h
  have h : 1024 < l.length := by omega
  exact ret_rule (vs := [_, _]) r57 rfl rfl fun W hW => hR _ _ ⟨hW.fresh', _, by rw [errP_gt h]; rfl, by rw [ansP_gt h]; exact ownsB_nil _ _ _ _⟩
 have h1024 : l.length ≤ 1024 := by have := of_decide_eq_false h; omega
 refine call_own (vs := [.slice A l.length c]) rfl (fun W hW => clone82 A c l W (hA.keep hW.fresh') (by omega)) fun A1 c1 => ?_
 (refine Y_go 600 ?_; dsimp only [List.length_nil, zq8s, List.nil_append, Y_k, zq5d, List.length_cons, Nat.reduceAdd, List.map, zq6t, List.cons_append, YK, zq5c, zq8n, zq6m, Nat.reduceBEq, zq6j, zq6k, zq80, zq7m, zq0a, zq1x, nth, zq1t, dropL, takeL, zq1r, splice, setn, zq8r, zq9h, normF, zq6l, zq85, zq89, zq8b, zq86, zq9s, zq9u])
 intro g
 refine loop_go (α := S57) (fun y => y.m.length ≤ l.length ∧ skipL y.m = skipL l) (fun _ => ⟨w, w.heap.size, [], 21, []⟩) (fun y => { F := [(0, .val (.slice A l.length c)), (4, .ptr 1 0)], H := [.own 41 0 5 y.A y.m.length y.c (cellsI y.m), .cells g 22 [.own 0 0]] }) (fun y => y.m.length) (fun _ => rfl) ?start ?round
 case start =>
  intro a W rep
  exact ⟨⟨l, A1, c1⟩, ⟨Nat.le_refl _, rfl⟩, rep.le (by (simp only [setn, List.nil_append, List.cons_append, leF, leH_nil, leH_cons, leF_nil, lk, scp, scpL, scpO, resF, resH, resO, resV, resVL, nth, Nat.reduceBEq, Nat.reduceLT, decide_true, decide_false, List.length, List.length_cons, List.length_nil, Nat.reduceAdd, Bool.and_self, Bool.and_true, and_true, true_and, numF] <;> try simp)) (by (simp only [setn, List.nil_append, List.cons_append, leF, leH_nil, leH_cons, leF_nil, lk, scp, scpL, scpO, resF, resH, resO, resV, resVL, nth, Nat.reduceBEq, Nat.reduceLT, decide_true, decide_false, List.length, List.length_cons, List.length_nil, Nat.reduceAdd, Bool.and_self, Bool.and_true, and_true, true_and, numF] <;> try simp))⟩
 case round =>
  rintro ⟨m, A2, c2⟩ ⟨hml, hsk⟩ I again
  have hml : m.length ≤ l.length := hml
  have hsk : skipL m = skipL l := hsk
  have hle := skip1_le m
  (refine Y_go 600 ?_; dsimp only [zq9x, t57n3, T57n3, zq9s, zq9q, zq9p, Y_k, zq5b, zq8n, zq6m, Nat.reduceBEq, zq6k, zq6j, zq1o, nth, zq1k, List.length_cons, List.length_nil, Nat.reduceAdd, dropL, takeL, zq19, zq18, YK, zq8s, zq5j, evL, zq9i])
  refine call_own (vs := [.slice A2 m.length c2, .func (.func 86) #[] [Value.pointer (some ⟨g, 0, none⟩)].toArray]) rfl (fun W hW => drop85 A2 c2 m 86 [.pointer (some ⟨g, 0, none⟩)] (skipB m) W (hG.keep hW.fresh') (hW.rowAt (i := 0) rfl) (by omega) ok86 (fun W' hk i hi =>
   gone86 i m A2 c2 (some ⟨g, 0, none⟩) W' ((hG.keep hW.fresh').keep hk) ((hW.cellsAt (i := 1) rfl rfl).keep hk) ((hW.rowAt (i := 0) rfl).keep hk) hi (by omega))) fun A3 c3 => ?_
  (refine Y_go 600 ?_; dsimp only [List.length_cons, List.length_nil, Nat.reduceAdd, zq8s, List.cons_append, List.nil_append, Y_k, zq4t, zq8n, zq6m, Nat.reduceBEq, zq6j, YK, zq9h, normF, zq6k, zq6l, zq85, zq8e, zq8b, zq86, zq9x, t57n2, T57n2, zq9q, zq9p, zq54, zq0t, nth, zq09, zq08, zq0q, zq5b, zq1o, zq1k, dropL, takeL, zq19, zq18, zq4z, zq04, zq91, zq9a, zq0i, zq9b, zq9r, zq6g, zq8w, YC, t57n1, T57n1, zq8o, zq6p, zq88, zq9w, zq9o, zq5c, zq80, zq7m, zq0a, zq1x, zq1t, zq1r, splice, setn, zq8r, zq89, zqa0, zqa1])
  have e1 : dropP (skipB m) m = skip1 m := rfl
  rw [e1]
  refine ⟨fun h => ?_, fun h => ?_⟩
  ·have h : (skip1 m).length = m.length := by have : ((skip1 m).length : Int) = m.length := by simpa using h
                                              omega
   have e2 : skip1 m = skipL l := by rw [← hsk, skipL_fix h]; exact dropP_same h
   refine ret_rule (vs := [_, _]) r57 rfl rfl fun W hW => hR _ _ ⟨hW.fresh', _, by rw [errP_le h1024]; rfl, ?_⟩
   rw [ansP_le h1024, ← e2]
   exact hW.owns (i := 2) rfl
  ·have h : (skip1 m).length ≠ m.length := by intro e; simp [e] at h
   exact lend_rule fun a W rep => again ⟨skip1 m, A3, c3⟩ ⟨by show (skip1 m).length ≤ _; omega, (skipL_step m).trans hsk⟩ (by show (skip1 m).length < m.length; omega) a W ((rep.pick [2, 1] (by decide)).le (by (simp only [renF, renV, renVL, renO, pickH, pickE, posOf, setn, List.nil_append, List.cons_append, leF, leH_nil, leH_cons, leF_nil, lk, scp, scpL, scpO, resF, resH, resO, resV, resVL, nth, Nat.reduceBEq, Nat.reduceLT, decide_true, decide_false, List.length, List.length_cons, List.length_nil, Nat.reduceAdd, Bool.and_self, Bool.and_true, and_true, true_and, numF] <;> try simp)) (by (simp only [renF, renV, renVL, renO, pickH, pickE, posOf, setn, List.nil_append, List.cons_append, leF, leH_nil, leH_cons, leF_nil, lk, scp, scpL, scpO, resF, resH, resO, resV, resVL, nth, Nat.reduceBEq, Nat.reduceLT, decide_true, decide_false, List.length, List.length_cons, List.length_nil, Nat.reduceAdd, Bool.and_self, Bool.and_true, and_true, true_and, numF] <;> try simp)))
end Go.Proofs.YtlbiogokpadaoaaGreatDoor
namespace Go.Proofs.YtlbiogokpadaoaaGreatDoor
open Go Go.Sx Go.Isa Go.Lint
set_option maxRecDepth 100000
theorem owns_le {w : World} {N : Nat} {t : TypeId} {sz n : Nat} {v : Value} {xs : List Value} (ho : World.ownsB w N t sz v n xs) : n ≤ maxLen := by
 obtain ⟨_, ⟨_, _, h0, _⟩ | ⟨g, b, cap, cur, _, _, _, h1, h2, _⟩⟩ := ho
 ·rw [h0]; exact Nat.zero_le _
 ·exact Nat.le_trans h1 h2
theorem trim58 (l : List In) (hl : l.length ≤ 2000) : PassOk 58 [] l (ansP trimL l) := by
 intro A c w hG hA
 refine calls_go (keep := K58) (nt := 37) (svs := [.val (.slice A l.length c)]) Tryz.func58 x58 n58 (by simp) (by simp [IsL, Is]) fun R hR => ?_
 (refine Y_go 600 ?_; dsimp only [X58, numF, Nat.reduceAdd, zq9q, zq9p, Y_k, zq4t, zq8o, zq6t, YK, zq8s, zq6p, zq9h, normF, zq6m, Nat.reduceBEq, zq6k, zq6j, zq6l, zq85, zq86, zq9x, t58n10, T58n10, zq8n, zq9i])
 by_cases h1024 : 1024 < l.length
 ·refine call_val (vs := [.slice A l.length c]) (R := fun v => v = .tuple #[.slice none 0 0, .int .i64 2]) rfl (fun W hW => look22_big l.length A c W h1024) fun v hv => ⟨.tup [.val (.slice none 0 0), .val (.int .i64 2)], by rw [hv]; simp [Is, IsL], ?_⟩
  (refine Y_go 600 ?_; dsimp only [zq8s, Y_k, zq4t, zq8n, zq6m, Nat.reduceBEq, zq6j, YK, zq5i, zq2f, nth, zq2e, zq6k, zq9h, normF, zq6l, zq85, zq86, zq9x, t58n9, T58n9, zq9q, zq9p, zq4z, zq8o, zq6p, zq04, zq91, zq9a, zq0i, zq9c, zq9r, zq6g, zq8w, YC, t58n0, T58n0, zq6t, zq88, zq9w, zq9o, t58n8, T58n8, zq54, zq0r, zq66, zq06, zq4s, List.length_nil, List.nil_append, zq5d, List.length_cons, Nat.reduceAdd, List.map, List.cons_append, zq5c, zq80, zq7m, zq0a, zq1x, zq1t, dropL, takeL, zq1r, splice, setn, zq8r, zq89, zq8b, t58n7, T58n7, zq9s, zq9u])
  refine ⟨fun _ => ?_, fun h => absurd h (by decide)⟩
  exact ret_rule (vs := [_, _]) r58 rfl rfl fun W hW => hR _ _ ⟨hW.fresh', _, by rw [errP_gt h1024]; rfl, by rw [ansP_gt h1024]; exact ownsB_nil _ _ _ _⟩
 have h1024 : l.length ≤ 1024 := by omega
 refine call_rule (vs := [.slice A l.length c]) rfl (R := fun W v W' => ∃ (A : Option Addr) (c : Nat) (fs : List (Int × Int)), FoundOk l fs ∧ v = .tuple #[.slice A fs.length c, .int .i64 0] ∧ World.ownsB W' W.heap.size 46 2 (.slice A fs.length c) fs.length (fsV fs) ∧ Fresh W W') (fun W hW => look22F l A c W h1024 (hA.keep hW.fresh') (hG.keep hW.fresh')) fun W v W' hW ⟨A1, c1, fs, hf, hv, ho, hk⟩ => ?_
 have hfl : fs.length ≤ maxLen := owns_le ho
 obtain ⟨A', c', e1, e2, e5, _⟩ := hW.gain ho hk
 injection e1 with e3 _ e4
 subst e3; subst e4; subst hv
 refine ⟨.tup [.own 0 0, .val (.int .i64 0)], _, ?_, e2, e5, ?_⟩
 ·simp only [Is, IsL]; exact ⟨_, ⟨_, _, ⟨_, _, _, _, _, _, _, rfl, Nat.le_refl _, ⟨_, _, _, rfl⟩, fun _ => rfl⟩, ⟨_, _, rfl, rfl, rfl⟩, rfl⟩, rfl⟩
 simp only [maxLen] at hfl
 clear e5 e2 hW ho hk
 (refine Y_go 600 ?_; dsimp only [zq8s, List.nil_append, Y_k, zq4t, zq8n, zq6m, Nat.reduceBEq, zq6j, YK, zq5i, zq2f, nth, zq2e, zq6k, zq9h, normF, zq6l, zq85, zq86, zq8e, zq9x, t58n9, T58n9, zq9q, zq9p, zq4z, zq8o, zq6p, zq04, zq91, zq9a, zq0i, zq9c, zq9r, zq6g, zq8w, YC, t58n0, T58n0, zq6t, zq88, zq9w, zq9o, t58n8, T58n8, zq54, zq0r, zq66, zq06, zq4s, List.length_cons, List.length_nil, Nat.reduceAdd, List.cons_append, zq5d, List.map, zq5c, zq80, zq7m, zq0a, zq1x, zq1t, dropL, takeL, zq1r, splice, setn, zq8r, zq89, zq8b, t58n7, T58n7, zq0t, zq09, zq08, zq0q, zq9s, zq9u])
 refine ⟨fun h => absurd h (by decide), fun _ => ?_⟩
 have hn1 : ((l.length : Nat) : Int).toNat = l.length := by omega
 refine ⟨⟨by omega, by omega, by omega, by omega⟩, fun g g1 => ?_⟩
 rw [hn1, ng_zero fs]
 refine loop_go (α := Nat) (fun i => i ≤ fs.length) (fun _ => ⟨w, w.heap.size, [], 37, []⟩) (fun i => { F := [(0, .val (.slice A l.length c)), (4, .own 0 0), (6, .ptr 2 0), (20, .own 0 0), (21, .val (.int .i64 fs.length)), (22, .val (.int .i64 (i : Int)))], H := [.own 46 0 2 A1 fs.length c1 (fsV fs), .own 4 0 1 (some ⟨g, 0, none⟩) l.length l.length (bV (ng fs l.length i)), .cells g1 30 [.own 1 0]] }) (fun i => fs.length - i) (fun _ => rfl) ?start ?round
 case start =>
  intro a W rep
  exact ⟨0, Nat.zero_le _, rep.le (by (simp only [setn, List.nil_append, List.cons_append, leF, leH_nil, leH_cons, leF_nil, lk, scp, scpL, scpO, resF, resH, resO, resV, resVL, nth, Nat.reduceBEq, Nat.reduceLT, decide_true, decide_false, List.length, List.length_cons, List.length_nil, Nat.reduceAdd, Bool.and_self, Bool.and_true, and_true, true_and, numF] <;> try simp)) (by (simp only [setn, List.nil_append, List.cons_append, leF, leH_nil, leH_cons, leF_nil, lk, scp, scpL, scpO, resF, resH, resO, resV, resVL, nth, Nat.reduceBEq, Nat.reduceLT, decide_true, decide_false, List.length, List.length_cons, List.length_nil, Nat.reduceAdd, Bool.and_self, Bool.and_true, and_true, true_and, numF] <;> try simp))⟩
 case round =>
  intro i hi I again
  have hi : i ≤ fs.length := hi
  (refine Y_go 600 ?_; dsimp only [zq9x, t58n5, T58n5, zq9q, zq9p, Y_k, zq4z, zq8n, zq6m, Nat.reduceBEq, zq6k, zq6j, zq04, zq91, zq9a, zq0i, zq9d, YK, zq8s, zq9h, normF, zq6l, zq85, zq86, zq8e, zq8b, t58n4, T58n4, zq9r, zq6g, zq8w, YC, zq9o, t58n3, T58n3, zq9s, zq57, zq06, zq0y, nth, zq09, zq08, zq0v, zq5b, zq1q, zq1n, zq1c, List.nil_append, List.cons_append, zq1b, zq17, zq5d, List.length_cons, List.length_nil, Nat.reduceAdd, List.map, zq6p, zq5c, zq7s, zq8k, zq72, zq8l, zq8j, zq0a, zq1x, zq1t, dropL, takeL, zq1r, splice, setn, zq8r, zq88, t58n2, T58n2, zq59, zq14, Nat.add_zero, zq1o, zq1k, zq19, zq18, zq8o, zq9b, t58n1, T58n1, zq6n, zq7u, zq7g, zq1y, zq1w, denL, den, zq1v, zqa0, zq4v, zq0e, zq4t, zqa1, zq89, zq9t, popTo, zq6h, YP, t58n6, T58n6, zq5j, evL, zq9i])
  refine ⟨fun hlt => ?_, fun hge => ?_⟩
  ·have hil : i < fs.length := by have := of_decide_eq_true hlt; omega
   have hx : fs[i]? = some fs[i] := List.getElem?_eq_getElem hil
   generalize fs[i] = x at hx
   obtain ⟨xc, xp⟩ := x
   have hc := fsV_get fs i _ hx
   have hi1 : ((i : Nat) : Int).toNat = i := by omega
   obtain ⟨hp0, hp1, _⟩ := bad_fits (by omega) ((hf.mem xc xp).1 (List.mem_of_getElem? hx))
   have hbl : xp.toNat * 1 + 1 ≤ (bV (ng fs l.length i)).length := by rw [bV_len, ng_len]; omega
   rw [hi1]
   refine ⟨⟨by omega, by omega⟩, xc, hc.1, xp, hc.2, fun g2 => ⟨fun h8 => ⟨⟨hp0, hp1⟩, hbl, ((i + 1 : Nat) : Int), ArOk.to (by omega) (by omega) (by omega), lend_rule fun a W rep => again (i + 1) (by show i + 1 ≤ _; omega) (by show fs.length - (i + 1) < fs.length - i; omega) a W (rep.le (by (simp only [setn, List.nil_append, List.cons_append, leF, leH_nil, leH_cons, leF_nil, lk, scp, scpL, scpO, resF, resH, resO, resV, resVL, nth, Nat.reduceBEq, Nat.reduceLT, decide_true, decide_false, List.length, List.length_cons, List.length_nil, Nat.reduceAdd, Bool.and_self, Bool.and_true, and_true, true_and, numF] <;> try simp)) ?_)⟩, fun h8 => ⟨((i + 1 : Nat) : Int), ArOk.to (by omega) (by omega) (by omega), lend_rule fun a W rep => again (i + 1) (by show i + 1 ≤ _; omega) (by show fs.length - (i + 1) < fs.length - i; omega) a W (rep.le (by (simp only [setn, List.nil_append, List.cons_append, leF, leH_nil, leH_cons, leF_nil, lk, scp, scpL, scpO, resF, resH, resO, resV, resVL, nth, Nat.reduceBEq, Nat.reduceLT, decide_true, decide_false, List.length, List.length_cons, List.length_nil, Nat.reduceAdd, Bool.and_self, Bool.and_true, and_true, true_and, numF] <;> try simp)) ?_)⟩⟩⟩
   ·have h8 : xc = 8 := by simpa using h8
    subst h8
    rw [Nat.mul_one, ng_set hx hp0]; (simp only [setn, List.nil_append, List.cons_append, leF, leH_nil, leH_cons, leF_nil, lk, scp, scpL, scpO, resF, resH, resO, resV, resVL, nth, Nat.reduceBEq, Nat.reduceLT, decide_true, decide_false, List.length, List.length_cons, List.length_nil, Nat.reduceAdd, Bool.and_self, Bool.and_true, and_true, true_and, numF] <;> try simp)
   ·have h8 : xc ≠ 8 := by simpa using h8
    rw [ng_same hx h8]; (simp only [setn, List.nil_append, List.cons_append, leF, leH_nil, leH_cons, leF_nil, lk, scp, scpL, scpO, resF, resH, resO, resV, resVL, nth, Nat.reduceBEq, Nat.reduceLT, decide_true, decide_false, List.length, List.length_cons, List.length_nil, Nat.reduceAdd, Bool.and_self, Bool.and_true, and_true, true_and, numF] <;> try simp)
  ·have hil : i = fs.length := by have := of_decide_eq_false hge; omega
   subst hil
   refine call_own (vs := [.slice A l.length c, .func (.func 87) #[] [Value.pointer (some ⟨g1, 0, none⟩)].toArray]) rfl (fun W hW => drop85 A c l 87 [.pointer (some ⟨g1, 0, none⟩)] (gB (ng fs l.length fs.length)) W (hG.keep hW.fresh') (hA.keep hW.fresh') (by omega) ok87 (fun W' hk i hi =>
    (by rw [← ng_len fs l.length fs.length] at hi; exact gone87 i (ng fs l.length fs.length) (some ⟨g, 0, none⟩) l.length (some ⟨g1, 0, none⟩) W' (by rw [ng_len]; exact (hW.cellsAt (i := 2) rfl rfl).keep hk) ((hW.rowAt (i := 1) rfl).keep hk) hi (by rw [ng_len]; omega)))) fun A3 c3 => ?_
   rw [drop_ng hf]
   (refine Y_go 600 ?_; dsimp only [List.length_cons, List.length_nil, Nat.reduceAdd, zq8s, List.cons_append, List.nil_append, Y_k, zq4t, zq8n, zq6m, Nat.reduceBEq, zq6j, YK, zq8o, zq6p, zq9h, normF, zq6k, zq6l, zq85, zq89, zq86, zq8e, zq8b, zq9w])
   exact ret_rule (vs := [_, _]) r58 rfl rfl fun W hW => hR _ _ ⟨hW.fresh', _, by rw [errP_le h1024]; rfl, by rw [ansP_le h1024]; exact hW.owns (i := 3) rfl⟩
end Go.Proofs.YtlbiogokpadaoaaGreatDoor
namespace Go.Proofs.YtlbiogokpadaoaaGreatDoor
open Go Go.Sx Go.Isa
set_option maxRecDepth 100000
theorem pass27_2 (l : List In) (hl : l.length ≤ 2000) : PassOk 27 [.int .i64 2] l (ansP skipL l) := by
 intro A c w hG hA
 refine calls_go (keep := K27) (nt := 35) (svs := [.val (.int .i64 2), .val (.slice A l.length c)]) Tryz.func27 x27 n27 (by simp) (by simp [IsL, Is]) fun R hR => ?_
 (refine Y_go 600 ?_; dsimp only [X27, numF, Nat.reduceAdd, zq9q, zq9p, Y_k, zq4t, zq8o, zq6t, YK, zq8s, zq6p, zq9h, normF, zq6m, Nat.reduceBEq, zq6k, zq6j, zq6l, zq85, zq86, zq9x, t27n9, T27n9, zq8n, t27n7, T27n7, zq9s, zq4z, zq04, zq91, zq9a, zq0i, zq9b, zq9r, zq6g, zq8w, YC, t27n0, T27n0, zq9i, t27n6, T27n6, zq89, t27n1, T27n1, t27n5, T27n5, t27n2, T27n2, t27n4, T27n4, t27n3, T27n3, zq9o, zqa0, t27n8, T27n8])
 refine ⟨fun h => absurd h (by decide), fun _ => ⟨fun h => absurd h (by decide), fun _ => ⟨fun _ => ?_, fun h => absurd h (by decide)⟩⟩⟩
 refine passCall rfl (l := l) (A := A) (c := c) (skip57 l hl) rfl (fun W hW => hG.keep hW.fresh') (fun W hW => hA.keep hW.fresh') fun A3 c3 => ?_
 (refine Y_go 600 ?_; dsimp only [List.length_nil, zq8s, List.nil_append, Y_k, zq5i, zq8n, zq6m, Nat.reduceBEq, zq6j, zq2f, nth, zq2e, YK, zq6k, zq4t, zq9h, normF, zq6l, zq85, zq88, zq89, zq86, zq8e, zq9w])
 exact ret_rule (vs := [_, _]) r27 rfl rfl fun W hW => hR _ _ ⟨hW.fresh', _, rfl, hW.owns (i := 0) rfl⟩
theorem pass27_3 (l : List In) (hl : l.length ≤ 2000) : PassOk 27 [.int .i64 3] l (ansP trimL l) := by
 intro A c w hG hA
 refine calls_go (keep := K27) (nt := 35) (svs := [.val (.int .i64 3), .val (.slice A l.length c)]) Tryz.func27 x27 n27 (by simp) (by simp [IsL, Is]) fun R hR => ?_
 (refine Y_go 600 ?_; dsimp only [X27, numF, Nat.reduceAdd, zq9q, zq9p, Y_k, zq4t, zq8o, zq6t, YK, zq8s, zq6p, zq9h, normF, zq6m, Nat.reduceBEq, zq6k, zq6j, zq6l, zq85, zq86, zq9x, t27n9, T27n9, zq8n, t27n7, T27n7, zq9s, zq4z, zq04, zq91, zq9a, zq0i, zq9b, zq9r, zq6g, zq8w, YC, t27n0, T27n0, zq9i, t27n6, T27n6, zq89, t27n1, T27n1, t27n5, T27n5, t27n2, T27n2, t27n4, T27n4, t27n3, T27n3, zq9o, zqa0, t27n8, T27n8])
 refine ⟨fun h => absurd h (by decide), fun _ => ⟨fun h => absurd h (by decide), fun _ => ⟨fun h => absurd h (by decide), fun _ => ⟨fun _ => ?_, fun h => absurd h (by decide)⟩⟩⟩⟩
 refine passCall rfl (l := l) (A := A) (c := c) (trim58 l hl) rfl (fun W hW => hG.keep hW.fresh') (fun W hW => hA.keep hW.fresh') fun A3 c3 => ?_
 (refine Y_go 600 ?_; dsimp only [List.length_nil, zq8s, List.nil_append, Y_k, zq5i, zq8n, zq6m, Nat.reduceBEq, zq6j, zq2f, nth, zq2e, YK, zq6k, zq4t, zq9h, normF, zq88, zq89, zq86, zq8e, zq9w])
 exact ret_rule (vs := [_, _]) r27 rfl rfl fun W hW => hR _ _ ⟨hW.fresh', _, rfl, hW.owns (i := 0) rfl⟩
theorem pass30_2 (l : List In) (hl : l.length ≤ 2000) : PassOk 30 [.int .i64 2] l (ansP skipL l) := by
 intro A c w hG hA
 refine calls_go (keep := K30) (nt := 28) (svs := [.val (.int .i64 2), .val (.slice A l.length c)]) Tryz.func30 x30 n30 (by simp) (by simp [IsL, Is]) fun R hR => ?_
 (refine Y_go 600 ?_; dsimp only [X30, numF, Nat.reduceAdd, zq9q, zq9p, Y_k, zq4t, zq8o, zq6t, YK, zq8s, zq6p, zq9h, normF, zq6m, Nat.reduceBEq, zq6k, zq6j, zq6l, zq85, zq86, zq9x, t30n11, T30n11, zq8n, zq54, zq0r, zq4z, zq04, zq91, zq9a, zq0i, zq9f, zq9r, zq6g, zq8w, YC, t30n0, T30n0, zq88, zq9w, zq9o, t30n10, T30n10, zq89, t30n8, T30n8, zq9s, zq9b, t30n1, T30n1, zq9i, t30n7, T30n7, t30n2, T30n2, t30n6, T30n6, t30n3, T30n3, t30n5, T30n5, t30n4, T30n4, zqa0, t30n9, T30n9])
 refine ⟨fun h => ?_, fun h => ⟨fun h => absurd h (by decide), fun _ => ⟨fun h => absurd h (by decide), fun _ => ⟨fun _ => ?_, fun h => absurd h (by decide)⟩⟩⟩⟩
 ·have h : 1024 < l.length := by have := of_decide_eq_true h; omega
  exact ret_rule (vs := [.slice none 0 0, .int .i64 2]) r30 rfl rfl fun W hW => hR _ _ ⟨hW.fresh', _, by rw [errP_gt h]; rfl, by rw [ansP_gt h]; exact ownsB_nil _ _ _ _⟩
 ·have h : l.length ≤ 1024 := by have := of_decide_eq_false h; omega
  refine call_own (vs := [.slice A l.length c]) rfl (fun W hW => skip63 A c l W (hA.keep hW.fresh') hl) fun A1 c1 => ?_
  (refine Y_go 600 ?_; dsimp only [List.length_nil, zq8s, List.nil_append, Y_k, zq4t, zq8n, zq6m, Nat.reduceBEq, zq6j, YK, zq8o, zq6p, zq9h, normF, zq6k, zq6l, zq85, zq88, zq89, zq86, zq8e, zq9w])
  exact ret_rule (vs := [_, _]) r30 rfl rfl fun W hW => hR _ _ ⟨hW.fresh', _, by rw [errP_le h]; rfl, by rw [ansP_le h]; exact hW.owns (i := 0) rfl⟩
theorem pass30_3 (l : List In) (hl : l.length ≤ 2000) : PassOk 30 [.int .i64 3] l (ansP trimL l) := by
 intro A c w hG hA
 refine calls_go (keep := K30) (nt := 28) (svs := [.val (.int .i64 3), .val (.slice A l.length c)]) Tryz.func30 x30 n30 (by simp) (by simp [IsL, Is]) fun R hR => ?_
 (refine Y_go 600 ?_; dsimp only [X30, numF, Nat.reduceAdd, zq9q, zq9p, Y_k, zq4t, zq8o, zq6t, YK, zq8s, zq6p, zq9h, normF, zq6m, Nat.reduceBEq, zq6k, zq6j, zq6l, zq85, zq86, zq9x, t30n11, T30n11, zq8n, zq54, zq0r, zq4z, zq04, zq91, zq9a, zq0i, zq9f, zq9r, zq6g, zq8w, YC, t30n0, T30n0, zq88, zq9w, zq9o, t30n10, T30n10, zq89, t30n8, T30n8, zq9s, zq9b, t30n1, T30n1, zq9i, t30n7, T30n7, t30n2, T30n2, t30n6, T30n6, t30n3, T30n3, t30n5, T30n5, t30n4, T30n4, zqa0, t30n9, T30n9])
 refine ⟨fun h => ?_, fun h => ⟨fun h => absurd h (by decide), fun _ => ⟨fun h => absurd h (by decide), fun _ => ⟨fun h => absurd h (by decide), fun _ => ⟨fun _ => ?_, fun h => absurd h (by decide)⟩⟩⟩⟩⟩
 ·have h : 1024 < l.length := by have := of_decide_eq_true h; omega
  exact ret_rule (vs := [.slice none 0 0, .int .i64 2]) r30 rfl rfl fun W hW => hR _ _ ⟨hW.fresh', _, by rw [errP_gt h]; rfl, by rw [ansP_gt h]; exact ownsB_nil _ _ _ _⟩
 ·have h : l.length ≤ 1024 := by have := of_decide_eq_false h; omega
  refine call_own (vs := [.slice A l.length c]) rfl (fun W hW => trim64 A c l W (hG.keep hW.fresh') (hA.keep hW.fresh') h) fun A1 c1 => ?_
  (refine Y_go 600 ?_; dsimp only [List.length_nil, zq8s, List.nil_append, Y_k, zq4t, zq8n, zq6m, Nat.reduceBEq, zq6j, YK, zq8o, zq6p, zq9h, normF, zq6k, zq88, zq89, zq86, zq8e, zq9w])
  exact ret_rule (vs := [_, _]) r30 rfl rfl fun W hW => hR _ _ ⟨hW.fresh', _, by rw [errP_le h]; rfl, by rw [ansP_le h]; exact hW.owns (i := 0) rfl⟩
theorem law5 (A : Option Addr) (c : Nat) (l : List In) (w : World) (hG : ShAt w) (hA : RowAt w A (cellsI l)) :
  CallsV Tryz.prog 5 [.slice A l.length c] w fun v w' => Fresh w w' ∧ v = .bool true := by
 refine calls_go (keep := K5) (nt := 22) (svs := [.val (.slice A l.length c)]) Tryz.func5 x5 n5 (by simp) (by simp [IsL, Is]) fun R hR => ?_
 (refine Y_go 600 ?_; dsimp only [X5, numF, Nat.reduceAdd, zq9q, zq9p, Y_k, zq4t, zq8o, zq6o, YK, zq8s, zq9h, normF, zq6m, Nat.reduceBEq, zq6k, zq6j, zq6l, zq85, zq89, zq86, zq9x, t5n2, T5n2, zq8n, zq54, zq0r, zq4z, zq6p, zq04, zq91, zq9a, zq0i, zq9f, Y_gk, zq6c, YR, zq68, zq9e, zq4u, zq0b, zq6d, YS, zq69, zq6n, zq88, zq9r, zq6e, YC, t5n0, T5n0, zq9w, zq6b, zq0c, zq6g, zq8w, zq9o, t5n1, T5n1, zq9i, zq6a])
 have done : ∀ F H, denAll H F [2] = some [.bool true] → RetG (cxOf Tryz.prog Tryz.f5 K5 T5 R) ⟨w, w.heap.size, [], 22, []⟩ { F := F, H := H } := fun F H hd =>
  ret_rule (vs := [.bool true]) r5 rfl hd fun W hW => hR _ _ ⟨hW.fresh', rfl⟩
 have hm2 : l.length ≤ 2000 → (ansP skipL l).length ≤ 2000 := fun h => Nat.le_trans (ansP_len l (skipL_len l)) h
 have hm3 : l.length ≤ 2000 → (ansP trimL l).length ≤ 2000 := fun h => Nat.le_trans (ansP_len l (trimL_len l)) h
 refine ⟨fun h1 => ⟨fun h2 => done _ _ rfl, fun h2 => ⟨fun h3 => done _ _ rfl, fun h3 => ?_⟩⟩, fun h1 => ⟨fun h3 => done _ _ rfl, fun h3 => ?_⟩⟩
 all_goals have hl : l.length ≤ 1100 := by have := of_decide_eq_false h3; omega
 all_goals refine call_val (vs := [.int .i64 2, .slice A l.length c]) (R := fun v => v = .bool true) rfl (fun W hW => (law15 2 A c l _ W (hG.keep hW.fresh') (hA.keep hW.fresh') (by omega) (hm2 (by omega)) (pass27_2 l (by omega)) (pass30_2 l (by omega))).mono fun v w' h => ⟨h.2, h.1⟩) (fun v hv => ⟨.bt, by simpa [Is] using hv, ?_⟩)
 all_goals (refine Y_go 600 ?_; dsimp only [zq8s, Y_k, zq4t, zq8n, zq6m, Nat.reduceBEq, zq6j, YK, Y_gk, zq68, YR, zq6k, zq9k, YG])
 all_goals refine call_val (vs := [.int .i64 3, .slice A l.length c]) (R := fun v => v = .bool true) rfl (fun W hW => (law15 3 A c l _ W (hG.keep hW.fresh') (hA.keep hW.fresh') (by omega) (hm3 (by omega)) (pass27_3 l (by omega)) (pass30_3 l (by omega))).mono fun v w' h => ⟨h.2, h.1⟩) (fun v hv => ⟨.bt, by simpa [Is] using hv, ?_⟩)
 all_goals (refine Y_go 600 ?_; dsimp only [zq8s, Y_k, zq4u, zq8n, zq6m, Nat.reduceBEq, zq6j, zq8o, zq6o, zq6k, zq0b, YK, zq4t, zq9h, normF, zq89, zq88, zq86, zq9w])
 all_goals exact done _ _ rfl
end Go.Proofs.YtlbiogokpadaoaaGreatDoor
