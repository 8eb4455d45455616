/- hist.Split: a history's attempts, as they are told. -/
import Derived.Test.YtbkpiljencaoeaaGHsW2
import Derived.Test.YtbkpiljencaoeaaGHsCodeO
set_option linter.unusedSimpArgs false
set_option linter.unusedVariables false
set_option linter.unnecessarySimpa false
namespace Go.Proofs.Ytbkpiljencaoeaa
open Go Go.Sx Go.Hs
set_option maxRecDepth 100000
theorem HeapOk.over0 {E : Env} {H : List SO} {W : World} (h : HeapOk E H W) (nt : Nat) (mk : List Nat) (hH : fps H = []) : Over E ⟨W, W.heap.size, [], nt, mk⟩ := by
 have := (h.rebase nt mk).2
 rw [hH] at this; exact this
theorem split31 (A : Option Addr) (c : Nat) (h : List Ev) (w : World) (hA : RowAt w A (cellsE h)) (hl : h.length ≤ 1000) :
  CallsV Try.prog 49 [.slice A h.length c] w fun v w' => (splitL h = none ∧ v = .tuple #[.slice none 0 0, .int .i64 120] ∧ Fresh w w') ∨
   (∃ (z : List (At × Hd)) (B : Option Addr) (bc : Nat), splitL h = some (z.map (·.1)) ∧ v = .tuple #[.slice B z.length bc, .int .i64 0] ∧ HeapOk ⟨w, w.heap.size, [], 67, []⟩ ([.own 75 0 11 B z.length bc (cellsTs z)] ++ famQ 114 85 z) w') := by
 refine calls_go (keep := K49) (nt := 32) (svs := [.val (.slice A h.length c)]) Try.func49 x49 n49 (by simp) (by simp [IsL, Is]) fun R hR => ?_
 (refine Y_go 600 ?_; dsimp only [X49, numF, Nat.reduceAdd, zq9r, zq9q, Y_k, zq4u, zq8p, zq6u, YK, zq8t, zq6q, zq9i, normF, zq6n, Nat.reduceBEq, zq6l, zq6k, zq6m, zq86, zq87, zq9y, t49n9, T49n9, zq8o, zq9j])
 refine call_rule (vs := [.slice A h.length c]) rfl (R := fun W v w' => (splitL h = none ∧ v = .tuple #[.slice none 0 0, .int .i64 120] ∧ Fresh W w') ∨
   (∃ (z : List (At × Hd)) (B : Option Addr) (bc : Nat), splitL h = some (z.map (·.1)) ∧ v = .tuple #[.slice B z.length bc, .int .i64 0] ∧ HeapOk ⟨W, W.heap.size, [], 67, []⟩ ([.own 94 0 1 B z.length bc (ptrs z)] ++ famQ 114 85 z) w')) (fun W hW => split54 A c h W (hA.keep hW.fresh') hl) fun W v W' hW hr => ?_
 rcases hr with ⟨hs, hv, hf⟩ | ⟨z, B, bc, hs, hv, hh⟩
 ·refine ⟨.tup [.val (.slice none 0 0), .val (.int .i64 120)], [], by rw [hv]; simp [Is, IsL], HExt.refl _, hW.freshK hf, ?_⟩
  (refine Y_go 600 ?_; dsimp only [zq8t, Y_k, zq4u, zq8o, zq6n, Nat.reduceBEq, zq6k, YK, zq5j, zq2f, nth, zq2e, zq6l, zq9i, normF, zq6m, zq86, zq87, zq9y, t49n8, T49n8, zq9r, zq9q, zq50, zq8p, zq6q, zq04, zq92, zq9b, zq0i, zq9d, zq9s, zq6h, zq8x, YC, t49n0, T49n0, zq6u, zq89, zq9x, zq9p, t49n7, T49n7, zq8a, t49n6, T49n6, zq55, zq0r, zq9t, zq9v])
  refine ⟨fun _ => ?_, fun hb => absurd hb (by decide)⟩
  exact ret_rule (vs := [.slice none 0 0, .int .i64 120]) r49 rfl rfl fun W hW => hR _ _ (.inl ⟨hs, rfl, hW.fresh'⟩)
 ·refine ⟨.tup [.own 0 0, .val (.int .i64 0)], [.own 94 0 1 B z.length bc (ptrs z)] ++ famQ 114 85 z, ?_, HExt.nilTo _, (HeapOk.over0 hW 67 [] rfl).heap hh, ?_⟩
  ·rw [hv]; simp only [Is, IsL]; exact ⟨_, ⟨_, _, ⟨_, _, _, _, _, _, _, rfl, Nat.le_refl _, ⟨_, _, _, rfl⟩, fun _ => rfl⟩, ⟨_, _, rfl, rfl, rfl⟩, rfl⟩, rfl⟩
  clear hh hv hW W W'
  (refine Y_go 600 ?_; dsimp only [zq8t, List.cons_append, List.nil_append, Y_k, zq4u, zq8o, zq6n, Nat.reduceBEq, zq6k, YK, zq5j, zq2f, nth, zq2e, zq6l, zq9i, normF, zq6m, zq86, zq87, zq8f, zq9y, t49n8, T49n8, zq9r, zq9q, zq50, zq8p, zq6q, zq04, zq92, zq9b, zq0i, zq9d, zq9s, zq6h, zq8x, YC, t49n0, T49n0, zq6u, zq89, zq9x, zq9p, t49n7, T49n7, zq8a, t49n6, T49n6, zq55, zq0t, zq09, zq08, zq0q, zq9t, zq9v])
  refine ⟨fun hb => absurd hb (by decide), fun _ => ?_⟩
  refine G.cut (H1 := [.own 94 0 1 B z.length bc (ptrs z)]) (r := famQ 114 85 z) rfl ?_ fun W0 hW0 hov => ?_
  ·(simp only [setn, List.nil_append, List.cons_append, leF, leH_nil, leH_cons, leF_nil, lk, scp, scpL, scpO, resF, resH, resO, resV, resVL, nth, Nat.reduceBEq, Nat.reduceLT, decide_true, decide_false, List.length, List.length_cons, List.length_nil, Nat.reduceAdd, Bool.and_self, Bool.and_true, and_true, true_and, numF] <;> try simp)
  have hcell : ∀ p ∈ z, RowE ⟨W0, W0.heap.size, fps [.own 94 0 1 B z.length bc (ptrs z)], 32, []⟩ (some ⟨p.2.g, 0, none⟩) (cellsA p.1 p.2) := fun p hp => hW0.offR (t := 114) (famQ_mem 114 85 hp _ (by simp [quad])) 32 []
  have hzl : z.length ≤ 1000 := by
   unfold splitL at hs
   cases hq : sp h h.length with
   | none => rw [hq] at hs; cases hs
   | some s =>
    rw [hq] at hs; injection hs with hs
    have hs : s.out = z.map (·.1) := hs
    have h1 : z.length = s.out.length := by rw [hs, List.length_map]
    have h2 := (sp_ok hq).len
    omega
  refine loop_go (α := Nat × Option Addr × Nat) (fun q => q.1 ≤ z.length) (fun _ => ⟨W0, W0.heap.size, fps [.own 94 0 1 B z.length bc (ptrs z)], 32, []⟩)
   (fun q => { F := [(5, .val (.int .i64 0)), (6, .own 1 0), (17, .own 0 0), (18, .val (.int .i64 z.length)), (19, .val (.int .i64 q.1))], H := [.own 94 0 1 B z.length bc (ptrs z), .own 75 0 11 q.2.1 (z.take q.1).length q.2.2 (cellsTs (z.take q.1))] }) (fun q => z.length - q.1) (fun _ => rfl) ?start ?round
  case start =>
   intro a W rep
   exact ⟨(0, none, 0), Nat.zero_le _, (rep.adopt 6 75 11 rfl).le (by (simp only [setn, List.nil_append, List.cons_append, leF, leH_nil, leH_cons, leF_nil, lk, scp, scpL, scpO, resF, resH, resO, resV, resVL, nth, Nat.reduceBEq, Nat.reduceLT, decide_true, decide_false, List.length, List.length_cons, List.length_nil, Nat.reduceAdd, Bool.and_self, Bool.and_true, and_true, true_and, numF] <;> try simp)) (by (simp only [setn, List.nil_append, List.cons_append, leF, leH_nil, leH_cons, leF_nil, lk, scp, scpL, scpO, resF, resH, resO, resV, resVL, nth, Nat.reduceBEq, Nat.reduceLT, decide_true, decide_false, List.length, List.length_cons, List.length_nil, Nat.reduceAdd, Bool.and_self, Bool.and_true, and_true, true_and, numF] <;> try simp); rfl)⟩
  case round =>
   rintro ⟨i, oA, oc⟩ hi I again
   simp only at hi ⊢
   (refine Y_go 600 ?_; dsimp only [zq9y, t49n4, T49n4, zq9r, zq9q, Y_k, zq50, zq8o, zq6n, Nat.reduceBEq, zq6l, zq6k, zq04, zq92, zq9b, zq0i, zq9e, YK, zq8t, zq9i, normF, zq6m, zq87, zq8f, zq86, t49n3, T49n3, zq9s, zq6h, zq8x, YC, zq9p, t49n2, T49n2, zq9t, zq58, zq06, zq0y, nth, zq09, zq08, zq0v, zq5c, zq1q, zq1n, zq1f, List.nil_append, zq1b, zq18, zq4u, zq89, zq8d, t49n1, T49n1, zq5i, zq2b, zq5a, zq16, Nat.add_zero, zq1p, zq1c, Nat.reduceAdd, List.cons_append, zq1g, zq1d, zq17, zq5h, List.map, zq6q, zq6u, zq6p, repL, zq23, Nat.reduceMul, zq7t, List.length_cons, List.length_nil, zq8l, zq73, zq8m, zq77, zq7g, zq8k, zq0a, dropL, takeL, zq20, splice, setn, zq24, zq26, zq5l, zq2w, zq2s, zq2r, zq2n, zq2j, zq2k, denL, den, zq2l, zq2h, zqa1, zq4w, zq8p, zq0e, zqa2, zq9u, popTo, zq6i, YP, t49n5, T49n5, zq8a, zq9x])
   refine ⟨fun hlt => ?_, fun hge => ?_⟩
   ·have hlt : i < z.length := by have := of_decide_eq_true hlt; omega
    have hzi : z[i]? = some z[i] := List.getElem?_eq_getElem hlt
    generalize hp : z[i] = p at hzi
    have hc := hcell p (List.mem_of_getElem? hzi)
    refine ⟨⟨by omega, by omega⟩, _, by rw [Int.toNat_natCast, Nat.mul_one]; exact ptrs_get hzi, rfl, rfl, _, hc.cell (j := 0) rfl, _, hc.cell (j := 1) rfl, _, hc.cell (j := 2) rfl, _, hc.cell (j := 3) rfl, _, hc.cell (j := 4) rfl, _, hc.cell (j := 5) rfl, _, hc.cell (j := 6) rfl, _, _, _, hc.cell (j := 7) rfl, _, _, _, hc.cell (j := 8) rfl, _, hc.cell (j := 9) rfl, _, hc.cell (j := 10) rfl, fun g => ⟨⟨by simp only [maxLen, List.length_take]; omega, by simp only [List.length_take]; omega⟩, fun A5 c5 => ?_⟩⟩
    refine ⟨((i + 1 : Nat) : Int), ArOk.to (by omega) (by omega) (by omega), lend_rule fun a W rep => again (i + 1, A5, c5) hlt (by simp only; omega) a W ?_⟩
    have e : z.take (i + 1) = z.take i ++ [p] := by rw [List.take_add_one, hzi]; rfl
    simp only [e, cellsTs_app, List.length_append, List.length_cons, List.length_nil]
    exact rep.res.le (by (simp only [setn, List.nil_append, List.cons_append, leF, leH_nil, leH_cons, leF_nil, lk, scp, scpL, scpO, resF, resH, resO, resV, resVL, nth, Nat.reduceBEq, Nat.reduceLT, decide_true, decide_false, List.length, List.length_cons, List.length_nil, Nat.reduceAdd, Bool.and_self, Bool.and_true, and_true, true_and, numF] <;> try simp)) (by (simp only [setn, List.nil_append, List.cons_append, leF, leH_nil, leH_cons, leF_nil, lk, scp, scpL, scpO, resF, resH, resO, resV, resVL, nth, Nat.reduceBEq, Nat.reduceLT, decide_true, decide_false, List.length, List.length_cons, List.length_nil, Nat.reduceAdd, Bool.and_self, Bool.and_true, and_true, true_and, numF] <;> try simp); rfl)
   ·have hil : i = z.length := by have := of_decide_eq_false hge; omega
    subst hil
    refine ret_rule (vs := [.slice oA (z.take z.length).length oc, .int .i64 0]) r49 rfl rfl fun W hW => hR _ _ (.inr ⟨z, oA, oc, hs, by rw [List.take_length]; rfl, ?_⟩)
    rw [List.take_length] at hW
    have k1 := hW0.back (famQ_shut _ _ _) hW
    have k2 := HeapOk.fam (b := []) (r := [.own 94 0 1 B z.length bc (ptrs z), .own 75 0 11 oA z.length oc (cellsTs z)] ++ famQ 114 85 z) (r' := ([.own 75 0 11 oA z.length oc (cellsTs z)] ++ famQ 114 85 z) ++ [.own 94 0 1 B z.length bc (ptrs z)]) k1 (by simp) (fun e he => ?_) ?_
    ·refine HeapOk.env (E := ⟨w, w.heap.size, [], 32, []⟩) (E' := ⟨w, w.heap.size, [], 67, []⟩) rfl rfl rfl (HeapOk.pre (H' := [.own 75 0 11 oA z.length oc (cellsTs z)] ++ famQ 114 85 z) k2 fun e he => ?_)
     rcases List.mem_append.1 he with h2 | h2
     ·simp only [List.mem_singleton] at h2; subst h2; rfl
     ·exact scpO_mono (famQ_shut _ _ _ e h2)
    ·rcases List.mem_append.1 he with h2 | h2
     ·simp only [List.mem_cons, List.not_mem_nil, or_false] at h2
      rcases h2 with rfl | rfl <;> rfl
     ·exact famQ_shut _ _ _ e h2
    ·exact (List.perm_append_comm (l₁ := [.own 94 0 1 B z.length bc (ptrs z)]) (l₂ := [.own 75 0 11 oA z.length oc (cellsTs z)] ++ famQ 114 85 z))
end Go.Proofs.Ytbkpiljencaoeaa
