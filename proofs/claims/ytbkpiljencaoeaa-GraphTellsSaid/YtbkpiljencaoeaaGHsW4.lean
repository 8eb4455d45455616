/- hist.split: a history's attempts in memory. -/
import Derived.Test.YtbkpiljencaoeaaGHsW3
import Derived.Test.YtbkpiljencaoeaaGHsCode
set_option linter.unusedSimpArgs false
set_option linter.unusedVariables false
set_option linter.unnecessarySimpa false
namespace Go.Proofs.Ytbkpiljencaoeaa
open Go Go.Sx Go.Hs
set_option maxRecDepth 100000
structure SpI where
 n : Nat
 s : St
 z : List (At × Hd)
 oA : Option Addr
 oc : Nat
 gm : Nat
theorem split54 (A : Option Addr) (c : Nat) (h : List Ev) (w : World) (hA : RowAt w A (cellsE h)) (hl : h.length ≤ 1000) :
  CallsV Try.prog 39 [.slice A h.length c] w fun v w' => (splitL h = none ∧ v = .tuple #[.slice none 0 0, .int .i64 120] ∧ Fresh w w') ∨
   (∃ (z : List (At × Hd)) (B : Option Addr) (bc : Nat), splitL h = some (z.map (·.1)) ∧ v = .tuple #[.slice B z.length bc, .int .i64 0] ∧ HeapOk ⟨w, w.heap.size, [], 67, []⟩ ([.own 94 0 1 B z.length bc (ptrs z)] ++ famQ 114 85 z) w') := by
 refine calls_go (keep := K39) (nt := 67) (svs := [.val (.slice A h.length c)]) Try.func39 x39 n39 (by simp) (by simp [IsL, Is]) fun R hR => ?_
 (refine Y_go 600 ?_; dsimp only [X39, numF, Nat.reduceAdd, zq9r, zq9q, Y_k, zq4u, zq8p, zq6u, YK, zq8t, zq6q, zq9i, normF, zq6n, Nat.reduceBEq, zq6l, zq6k, zq6m, zq86, zq87, zq9y, t39n17, T39n17, zq9z])
 refine scp_rule (fun _ _ _ h => h) ?_
 (refine Y_go 600 ?_; dsimp only [zq9r, zq9q, Y_k, zq4u, zq8p, zq6u, YK, zq8t, zq9i, normF, zq6n, Nat.reduceBEq, zq6l, zq6k, zq6m, zq86, zq87, zq9y, t39n16, T39n16, zq60, List.length_nil, List.nil_append, zq8o, zq8h, zqa0, t39n15, T39n15, zq55, zq0r, zq6q, zq9t, zq9v])
 intro gm
 refine loop_go (α := SpI) (fun q => q.n ≤ h.length ∧ sp h q.n = some q.s ∧ q.z.map (·.1) = q.s.out) (fun _ => ⟨w, w.heap.size, [], 67, []⟩)
  (fun q => { F := [(0, .val (.slice A h.length c)), (4, .own 1 0), (5, .mp 0), (10, .val (.slice A h.length c)), (11, .val (.int .i64 h.length)), (12, .val (.int .i64 q.n))], H := [.map q.gm (opV q.z q.s.op), .own 94 0 1 q.oA q.z.length q.oc (ptrs q.z)] ++ famQ 114 85 q.z }) (fun q => h.length - q.n) (fun _ => rfl) ?start ?round
 case start =>
  intro a W rep
  exact ⟨⟨0, ⟨[], []⟩, [], none, 0, gm⟩, ⟨Nat.zero_le _, rfl, rfl⟩, (rep.adopt 4 94 1 rfl).le (by (simp only [setn, List.nil_append, List.cons_append, leF, leH_nil, leH_cons, leF_nil, lk, scp, scpL, scpO, resF, resH, resO, resV, resVL, nth, Nat.reduceBEq, Nat.reduceLT, decide_true, decide_false, List.length, List.length_cons, List.length_nil, Nat.reduceAdd, Bool.and_self, Bool.and_true, and_true, true_and, numF] <;> try simp)) (by simp only [famQ, ptrs, opV, List.flatMap_nil, List.map_nil, List.append_nil]; (simp only [setn, List.nil_append, List.cons_append, leF, leH_nil, leH_cons, leF_nil, lk, scp, scpL, scpO, resF, resH, resO, resV, resVL, nth, Nat.reduceBEq, Nat.reduceLT, decide_true, decide_false, List.length, List.length_cons, List.length_nil, Nat.reduceAdd, Bool.and_self, Bool.and_true, and_true, true_and, numF] <;> try simp))⟩
 case round =>
  rintro ⟨n, s, z, oA, oc, gm⟩ ⟨hn, hsp, hz⟩ I again
  simp only at hn hsp hz ⊢
  have hok := sp_ok hsp
  have hlens := sp_lens hsp
  have hzl : z.length = s.out.length := by rw [← hz, List.length_map]
  have hol := hok.len
  by_cases hlt : n < h.length
  rotate_left
  ·have hnl : n = h.length := by omega
   subst hnl
   (refine Y_go 600 ?_; dsimp only [List.cons_append, List.nil_append, zq9y, t39n13, T39n13, zq9r, zq9q, Y_k, zq50, zq8o, zq6n, Nat.reduceBEq, zq6l, zq6k, zq04, zq92, zq9b, zq0i, zq9e, YK, zq8t, zq9i, normF, zq6m, zq86, zq87, zq8h, zq8f, t39n12, T39n12, zq9s, zq6h, zq8x, YC, zq9p, t39n11, T39n11, zq9t, zq4u, zq58, zq06, zq0w, zq5c, zq1p, zq1c, zq1b, zq17, zq5e, List.length_cons, List.map, zq6q, zq5d, zq7t, List.length_nil, Nat.reduceAdd, zq8l, zq73, zq8m, zq8k, zq0a, zq1x, nth, zq9u, popTo, zq6i, YP, t39n14, T39n14, zq8p, zq8a, zq9x])
   refine ⟨fun hb => absurd (of_decide_eq_true hb) (by omega), fun _ => ?_⟩
   refine ret_rule (vs := [.slice oA z.length oc, .int .i64 0]) r39 rfl rfl fun W hW => hR _ _ (.inr ⟨z, oA, oc, ?_, rfl, ?_⟩)
   ·unfold splitL; rw [hsp, hz]; rfl
   ·have h1 := HeapOk.fam (b := []) (r := [.map gm (opV z s.op), .own 94 0 1 oA z.length oc (ptrs z)] ++ famQ 114 85 z) (r' := ([.own 94 0 1 oA z.length oc (ptrs z)] ++ famQ 114 85 z) ++ [.map gm (opV z s.op)]) hW (by simp) (fun e he => ?_) ?_
    ·refine HeapOk.pre (H' := [.own 94 0 1 oA z.length oc (ptrs z)] ++ famQ 114 85 z) h1 fun e he => ?_
     rcases List.mem_append.1 he with h2 | h2
     ·simp only [List.mem_singleton] at h2; subst h2; rfl
     ·exact scpO_mono (famQ_shut _ _ _ e h2)
    ·rcases List.mem_append.1 he with h2 | h2
     ·simp only [List.mem_cons, List.not_mem_nil, or_false] at h2
      rcases h2 with rfl | rfl <;> rfl
     ·exact famQ_shut _ _ _ e h2
    ·exact (List.perm_append_comm (l₁ := [.map gm (opV z s.op)]) (l₂ := [.own 94 0 1 oA z.length oc (ptrs z)] ++ famQ 114 85 z))
  have he : h[n]? = some h[n] := List.getElem?_eq_getElem hlt
  have hnext := sp_get hlt hsp
  generalize h[n] = e at he hnext
  cases ho : opGet s.op e.core with
  | none =>
   refine G.cut rfl (by (simp only [setn, List.nil_append, List.cons_append, leF, leH_nil, leH_cons, leF_nil, lk, scp, scpL, scpO, resF, resH, resO, resV, resVL, nth, Nat.reduceBEq, Nat.reduceLT, decide_true, decide_false, List.length, List.length_cons, List.length_nil, Nat.reduceAdd, Bool.and_self, Bool.and_true, and_true, true_and, numF] <;> try simp)) fun W0 hW0 hov => ?_
   have hAE : RowE ⟨W0, W0.heap.size, fps [.map gm (opV z s.op), .own 94 0 1 oA z.length oc (ptrs z)], 67, []⟩ A (cellsE h) := (hA.toE (by simp) 67 []).over hov
   have cl : ∀ k v, e.cells[k]? = some v → CellAt ⟨W0, W0.heap.size, fps [.map gm (opV z s.op), .own 94 0 1 oA z.length oc (ptrs z)], 67, []⟩ A ((n : Int).toNat * 9 + k) v := by
    intro k v hk
    rw [Int.toNat_natCast]
    obtain ⟨_, rfl⟩ := List.getElem?_eq_some_iff.1 he
    exact hAE.cell (by rw [cellsE_get h hlt (List.getElem?_eq_some_iff.1 hk).1]; exact hk)
   have hc : curA s e.core = none := by unfold curA; rw [ho]; rfl
   (refine Y_go 600 ?_; dsimp only [zq9y, t39n13, T39n13, zq9r, zq9q, Y_k, zq50, zq8o, zq6n, Nat.reduceBEq, zq6l, zq6k, zq04, zq92, zq9b, zq0i, zq9e, YK, zq8t, zq9i, normF, zq6m, zq86, zq87, zq8h, zq8f, t39n12, T39n12, zq9s, zq6h, zq8x, YC, zq9p, t39n11, T39n11, zq9t, zq4u, zq58, zq06, zq0w, zq5c, zq1p, zq1c, List.nil_append, List.cons_append, zq1b, zq17, zq5e, List.length_cons, List.length_nil, Nat.reduceAdd, List.map, zq6q, zq5d, zq7t, zq8l, zq73, zq8m, zq8k, zq0a, zq1x, nth, zq1t, dropL, takeL, zq1r, splice, setn, zq8s, zq89, zq8c, t39n10, T39n10, zq5a, zq14, zq1o, zq1k, zq19, zq18, zq61, zq4h, zq00, zq4g, zq4f, t39n9, T39n9, zq9j, zq9u, popTo, zq6i, YP, t39n14, T39n14, zq8p, zq8a, zq9x])
   refine ⟨fun _ => ?_, fun hb => absurd (of_decide_eq_false hb) (by omega)⟩
   refine ⟨⟨by omega, by omega, hAE.isSome (j := n * 9) (by rw [cellsE_len]; omega)⟩, _, cl 0 _ rfl, _, cl 1 _ rfl, _, cl 2 _ rfl, _, cl 3 _ rfl, _, cl 4 _ rfl, _, cl 5 _ rfl, _, cl 6 _ rfl, _, cl 7 _ rfl, _, cl 8 _ rfl, fun g => ⟨opV_keys _ _, none, by rw [mget_op, ho]; rfl, .adr none 0, rfl, ?_⟩⟩
   refine call_val (R := fun v => v = .bool (mayB e none)) (vs := [e.val, .pointer none]) rfl (fun W hW => may69_none e W) fun v hv => ⟨bsv (mayB e none), by rw [hv]; cases mayB e none <;> simp [Is, bsv], ?_⟩
   cases hm : mayB e none with
   | false =>
    have hno : sp h (n + 1) = none := by rw [hnext]; unfold Hs.stepS; rw [hc, hm]; rfl
    simp only [bsv]
    (refine Y_go 600 ?_; dsimp only [zq8d, zq6n, Nat.reduceBEq, zq6k, zq8t, Y_k, zq53, zq8o, zq0n, YK, zq9i, normF, zq6l, zq6m, zq86, zq89, zq87, zq8c, zq8h, zq8f, zq9s, zq6f, YC, zq9y, t39n0, T39n0, zq9r, zq9q, zq4u, zq8p, zq6u, zq6q, zq9x])
    refine ret_rule (vs := [.slice none 0 0, .int .i64 120]) r39 rfl rfl fun W hW => hR _ _ (.inl ⟨?_, rfl, ?_⟩)
    ·unfold splitL; rw [sp_none hno hlt]; rfl
    ·exact (hov.heap hW).fresh'
   | true =>
    simp only [bsv]
    (refine Y_go 600 ?_; dsimp only [zq8d, zq6n, Nat.reduceBEq, zq6k, zq8t, Y_k, zq53, zq8o, zq0m, YK, zq9i, normF, zq6l, zq6m, zq86, zq8a, zq89, zq87, zq8c, zq8h, zq8f, zq9s, zq6g, YC, zq9p, zq9y, t39n8, T39n8, zq9r, zq9t, zq9q, zq5c, zq1o, nth, zq1k, List.length_cons, List.length_nil, Nat.reduceAdd, dropL, takeL, zq19, zq17, zq9j])
    refine call_val (R := fun v => v = .bool (plainB e)) (vs := [e.val]) rfl (fun W hW => plain55 e W) fun v hv => ⟨bsv (plainB e), by rw [hv]; cases plainB e <;> simp [Is, bsv], ?_⟩
    cases hp : plainB e with
    | true =>
     have hst : sp h (n + 1) = some s := by rw [hnext]; unfold Hs.stepS; rw [hc, hm, hp]; rfl
     simp only [bsv]
     (refine Y_go 600 ?_; dsimp only [zq8t, Y_k, zq4u, zq8o, zq6n, Nat.reduceBEq, zq6k, YK, zq9i, normF, zq6l, zq6m, zq86, zq89, zq8a, zq87, zq8d, zq8c, zq8h, zq8f, zq9s, zq6f, YC, zq9u, popTo, zq6i, YP, zq9q, zq4w, zq8p, zq6q, zq04, zq92, zq9b, zq0e, zqa2])
     refine ⟨((n + 1 : Nat) : Int), ArOk.to (by omega) (by omega) (by omega), lend_rule fun a W rep => ?_⟩
     refine again ⟨n + 1, s, z, oA, oc, gm⟩ ⟨hlt, hst, hz⟩ (by simp only; omega) a W ?_
     refine Rep.back hW0 (famQ_shut _ _ _) (E' := ⟨W0, W0.heap.size, fps [.map gm (opV z s.op), .own 94 0 1 oA z.length oc (ptrs z)], 67, []⟩) (rep.le (by (simp only [setn, List.nil_append, List.cons_append, leF, leH_nil, leH_cons, leF_nil, lk, scp, scpL, scpO, resF, resH, resO, resV, resVL, nth, Nat.reduceBEq, Nat.reduceLT, decide_true, decide_false, List.length, List.length_cons, List.length_nil, Nat.reduceAdd, Bool.and_self, Bool.and_true, and_true, true_and, numF] <;> try simp)) (by (simp only [setn, List.nil_append, List.cons_append, leF, leH_nil, leH_cons, leF_nil, lk, scp, scpL, scpO, resF, resH, resO, resV, resVL, nth, Nat.reduceBEq, Nat.reduceLT, decide_true, decide_false, List.length, List.length_cons, List.length_nil, Nat.reduceAdd, Bool.and_self, Bool.and_true, and_true, true_and, numF] <;> try simp))) (Over.refl _) rfl rfl
    | false =>
     simp only [bsv]
     (refine Y_go 600 ?_; dsimp only [zq8t, Y_k, zq4u, zq8o, zq6n, Nat.reduceBEq, zq6k, YK, zq9i, normF, zq6l, zq6m, zq86, zq8a, zq89, zq87, zq8d, zq8c, zq8h, zq8f, zq9s, zq6g, YC, zq9y, t39n4, T39n4, zq9r, zq9q, zq5t, zq3t, zq3q, zq6h, zq8x, t39n3, T39n3, zq5a, zq14, Nat.reduceAdd, zq5c, zq1o, nth, zq1k, List.length_cons, List.length_nil, dropL, takeL, zq19, zq18, zq5g, List.map, zq6q, zq6u, zq6p, zq21, zq7u, zq73, zq0a, zq20, splice, setn, zq8p, zq22, zq25, zq60, List.cons_append, List.nil_append, zq6v, zq7t, zq8l, zq8m, zq77, zq7i, zq8k, zq83, zq7p, zq5f, zq1z, t39n2, T39n2, zq64, den, blk, zq4j, zq00, zq92, zq4i, zq8s, t39n1, T39n1, zq5h, zq6t, repL, zq23, Nat.reduceMul, zq7y, zq7k, zq24, zq26, zq5l, zq2w, zq09, zq08, zq2s, zq9b, zq2r, zq2n, zq2j, zq2k, denL, zq2l, zq2h, zq9u, popTo, zq6i, YP, zq4w, zq04, zq0e, zqa2, zq9p, zqa1, t39n7, T39n7, zq17, zq9j])
     refine ⟨fun _ g1 g2 => ⟨opV_keys _ _, fun g3 => ⟨⟨by simp only [maxLen]; omega, by omega⟩, fun A5 c5 => ⟨((n + 1 : Nat) : Int), ArOk.to (by omega) (by omega) (by omega), lend_rule fun a W rep => ?_⟩⟩⟩, fun hb => absurd hb (by simp)⟩
     have hst : sp h (n + 1) = some ⟨s.out ++ [newA e n], s.op ++ [(e.core, s.out.length)]⟩ := by rw [hnext]; unfold Hs.stepS; rw [hc, hm, hp, ho]; rfl
     have hmp : mput (opV z s.op) (.int .i64 e.core) (.pointer (some ⟨g2, 0, none⟩)) = opV (z ++ [(newA e n, ⟨g2, g1, none, 0, none, 0⟩)]) (s.op ++ [(e.core, s.out.length)]) := by
      rw [mput_op _ _ _ _ ho]
      have e1 := opV_snoc (z := z) s.op (newA e n, ⟨g2, g1, none, 0, none, 0⟩) fun q hq => by
       obtain ⟨y, hy, _⟩ := hok.open_ q.1 q.2 hq
       rw [hzl]; exact (List.getElem?_eq_some_iff.1 hy).1
      have e2 : (ptrs (z ++ [(newA e n, (⟨g2, g1, none, 0, none, 0⟩ : Hd))])).getD s.out.length (.pointer none) = .pointer (some ⟨g2, 0, none⟩) := by
       rw [ptrs_snoc, List.getD_eq_getElem?_getD, ← hzl]
       simp [ptrs, ptrH]
      unfold opV at e1 ⊢
      rw [List.map_append, e1, List.map_cons, List.map_nil, e2]
     rw [hmp] at rep
     have r1 : Rep ⟨W0, W0.heap.size, fps [.map gm (opV z s.op), .own 94 0 1 oA z.length oc (ptrs z)], 67, []⟩ { F := [(0, .val (.slice A h.length c)), (4, .own 1 0), (5, .mp 0), (10, .val (.slice A h.length c)), (11, .val (.int .i64 h.length)), (12, .val (.int .i64 ((n + 1 : Nat) : Int)))], H := [.map gm (opV (z ++ [(newA e n, ⟨g2, g1, none, 0, none, 0⟩)]) (s.op ++ [(e.core, s.out.length)])), .own 94 0 1 A5 (z.length + 1) c5 (ptrs z ++ [ptrH ⟨g2, g1, none, 0, none, 0⟩])] ++ quad 114 85 (newA e n) ⟨g2, g1, none, 0, none, 0⟩ } a W := by
      have q := ((rep.res.nilH 85 2).nilH 85 2).torow 4 (g := g2) (t := 114) (xs := cellsA (newA e n) ⟨g2, g1, none, 0, none, 0⟩) rfl rfl
      exact (q.pick [0, 1, 4, 3, 6, 7] (by decide)).le (by (simp only [renF, renV, renVL, renO, pickH, pickE, posOf, setn, List.nil_append, List.cons_append, leF, leH_nil, leH_cons, leF_nil, lk, scp, scpL, scpO, resF, resH, resO, resV, resVL, nth, Nat.reduceBEq, Nat.reduceLT, decide_true, decide_false, List.length, List.length_cons, List.length_nil, Nat.reduceAdd, Bool.and_self, Bool.and_true, and_true, true_and, numF] <;> try simp)) (by simp only [quad]; (simp only [renF, renV, renVL, renO, pickH, pickE, posOf, setn, List.nil_append, List.cons_append, leF, leH_nil, leH_cons, leF_nil, lk, scp, scpL, scpO, resF, resH, resO, resV, resVL, nth, Nat.reduceBEq, Nat.reduceLT, decide_true, decide_false, List.length, List.length_cons, List.length_nil, Nat.reduceAdd, Bool.and_self, Bool.and_true, and_true, true_and, numF] <;> try simp); exact ⟨rfl, rfl, ⟨rfl, rfl⟩, rfl, rfl⟩)
     have r2 := Rep.back hW0 (famQ_shut _ _ _) r1 (Over.refl _) rfl rfl
     have r3 := Rep.fam' (b := [.map gm (opV (z ++ [(newA e n, ⟨g2, g1, none, 0, none, 0⟩)]) (s.op ++ [(e.core, s.out.length)])), .own 94 0 1 A5 (z.length + 1) c5 (ptrs z ++ [ptrH ⟨g2, g1, none, 0, none, 0⟩])]) (r := quad 114 85 (newA e n) ⟨g2, g1, none, 0, none, 0⟩ ++ famQ 114 85 z) r2 (by (simp only [setn, List.nil_append, List.cons_append, leF, leH_nil, leH_cons, leF_nil, lk, scp, scpL, scpO, resF, resH, resO, resV, resVL, nth, Nat.reduceBEq, Nat.reduceLT, decide_true, decide_false, List.length, List.length_cons, List.length_nil, Nat.reduceAdd, Bool.and_self, Bool.and_true, and_true, true_and, numF] <;> try simp)) rfl (fun e he => by
      rcases List.mem_append.1 he with h2 | h2
      ·exact quad_shut _ _ _ _ e h2
      ·exact famQ_shut _ _ _ e h2) List.perm_append_comm
     refine again ⟨n + 1, _, z ++ [(newA e n, ⟨g2, g1, none, 0, none, 0⟩)], A5, c5, gm⟩ ⟨hlt, hst, by simp [hz]⟩ (by simp only; omega) a W ?_
     simp only [famQ_snoc, ptrs_snoc, List.length_append, List.length_cons, List.length_nil]
     exact r3
  | some i =>
   obtain ⟨x, h1, h2, h3, h4, h5, h6⟩ := hok.cur ho
   obtain ⟨hd, hzi⟩ : ∃ hd, z[i]? = some (x, hd) := by
    rw [← hz, List.getElem?_map] at h1
    cases hq : z[i]? with
    | none => rw [hq] at h1; cases h1
    | some p => rw [hq] at h1; injection h1 with h1; exact ⟨p.2, by rw [← h1]⟩
   have hiz : i < z.length := (List.getElem?_eq_some_iff.1 hzi).1
   have hlx := hlens x (List.mem_of_getElem? h1)
   refine G.le (E' := ⟨w, w.heap.size, [], 67, []⟩) rfl (s' := { F := [(0, .val (.slice A h.length c)), (4, .own 1 0), (5, .mp 0), (10, .val (.slice A h.length c)), (11, .val (.int .i64 h.length)), (12, .val (.int .i64 n))], H := [.map gm (opV z s.op), .own 94 0 1 oA z.length oc (ptrs z)] ++ (quad 114 85 x hd ++ famQ 114 85 (z.eraseIdx i)) }) (fun a W rep => rep.fam' (by (simp only [setn, List.nil_append, List.cons_append, leF, leH_nil, leH_cons, leF_nil, lk, scp, scpL, scpO, resF, resH, resO, resV, resVL, nth, Nat.reduceBEq, Nat.reduceLT, decide_true, decide_false, List.length, List.length_cons, List.length_nil, Nat.reduceAdd, Bool.and_self, Bool.and_true, and_true, true_and, numF] <;> try simp)) rfl (famQ_shut _ _ _) (famQ_out 114 85 hzi)) ?_
   refine G.cut (F := [(0, .val (.slice A h.length c)), (4, .own 1 0), (5, .mp 0), (10, .val (.slice A h.length c)), (11, .val (.int .i64 h.length)), (12, .val (.int .i64 n))]) (H1 := [.map gm (opV z s.op), .own 94 0 1 oA z.length oc (ptrs z)] ++ quad 114 85 x hd) (r := famQ 114 85 (z.eraseIdx i)) rfl (by simp only [quad, List.cons_append, List.nil_append]; (simp only [setn, List.nil_append, List.cons_append, leF, leH_nil, leH_cons, leF_nil, lk, scp, scpL, scpO, resF, resH, resO, resV, resVL, nth, Nat.reduceBEq, Nat.reduceLT, decide_true, decide_false, List.length, List.length_cons, List.length_nil, Nat.reduceAdd, Bool.and_self, Bool.and_true, and_true, true_and, numF] <;> try simp)) fun W0 hW0 hov => ?_
   generalize hst0 : fps ([.map gm (opV z s.op), .own 94 0 1 oA z.length oc (ptrs z)] ++ quad 114 85 x hd) = st0 at hov ⊢
   have hAE : RowE ⟨W0, W0.heap.size, st0, 67, []⟩ A (cellsE h) := (hA.toE (by simp) 67 []).over hov
   have cl : ∀ k v, e.cells[k]? = some v → CellAt ⟨W0, W0.heap.size, st0, 67, []⟩ A ((n : Int).toNat * 9 + k) v := by
    intro k v hk
    rw [Int.toNat_natCast]
    obtain ⟨_, rfl⟩ := List.getElem?_eq_some_iff.1 he
    exact hAE.cell (by rw [cellsE_get h hlt (List.getElem?_eq_some_iff.1 hk).1]; exact hk)
   simp only [quad, List.cons_append, List.nil_append]
   (refine Y_go 600 ?_; dsimp only [zq9y, t39n13, T39n13, zq9r, zq9q, Y_k, zq50, zq8o, zq6n, Nat.reduceBEq, zq6l, zq6k, zq04, zq92, zq9b, zq0i, zq9e, YK, zq8t, zq9i, normF, zq6m, zq86, zq87, zq8h, zq8f, t39n12, T39n12, zq9s, zq6h, zq8x, YC, zq9p, t39n11, T39n11, zq9t, zq4u, zq58, zq06, zq0w, zq5c, zq1p, zq1c, List.nil_append, List.cons_append, zq1b, zq17, zq5e, List.length_cons, List.length_nil, Nat.reduceAdd, List.map, zq6q, zq5d, zq7t, zq8l, zq73, zq8m, zq8k, zq0a, zq1x, nth, zq1t, dropL, takeL, zq1r, splice, setn, zq8s, zq89, zq8c, t39n10, T39n10, zq5a, zq14, zq1o, zq1k, zq19, zq18, zq61, zq4h, zq00, zq4g, zq4f, t39n9, T39n9, zq9j, zq9u, popTo, zq6i, YP, t39n14, T39n14, zq8p, zq8a, zq9x])
   refine ⟨fun _ => ?_, fun hb => absurd (of_decide_eq_false hb) (by omega)⟩
   refine ⟨⟨by omega, by omega, hAE.isSome (j := n * 9) (by rw [cellsE_len]; omega)⟩, _, cl 0 _ rfl, _, cl 1 _ rfl, _, cl 2 _ rfl, _, cl 3 _ rfl, _, cl 4 _ rfl, _, cl 5 _ rfl, _, cl 6 _ rfl, _, cl 7 _ rfl, _, cl 8 _ rfl, fun g => ⟨opV_keys _ _, some (ptrH hd), by rw [mget_op, ho]; simp only [Option.map_some]; rw [List.getD_eq_getElem?_getD, ptrs_get hzi]; rfl, .ptr 2 0, rfl, ?_⟩⟩
   refine call_val (R := fun v => v = .bool (mayB e (some x))) (vs := [e.val, ptrH hd]) rfl (fun W hW => may69_some e x hd _ W (hW.cellsRow (i := 2) rfl)) fun v hv => ⟨bsv (mayB e (some x)), by rw [hv]; cases mayB e (some x) <;> simp [Is, bsv], ?_⟩
   cases hm : mayB e (some x) with
   | false =>
    have hno : sp h (n + 1) = none := by rw [hnext]; unfold Hs.stepS; rw [h3, hm]; rfl
    simp only [bsv]
    (refine Y_go 600 ?_; dsimp only [zq8c, zq6n, Nat.reduceBEq, zq6k, zq8t, Y_k, zq53, zq8o, zq0n, YK, zq9i, normF, zq6l, zq6m, zq86, zq89, zq87, zq8h, zq8f, zq9s, zq6f, YC, zq9y, t39n0, T39n0, zq9r, zq9q, zq4u, zq8p, zq6u, zq6q, zq9x])
    refine ret_rule (vs := [.slice none 0 0, .int .i64 120]) r39 rfl rfl fun W hW => hR _ _ (.inl ⟨?_, rfl, ?_⟩)
    ·unfold splitL; rw [sp_none hno hlt]; rfl
    ·exact (hov.heap hW).fresh'
   | true =>
    have hk := may_own hm
    have hp : plainB e = false := by rw [plainF]; omega
    simp only [bsv]
    (refine Y_go 600 ?_; dsimp only [zq8c, zq6n, Nat.reduceBEq, zq6k, zq8t, Y_k, zq53, zq8o, zq0m, YK, zq9i, normF, zq6l, zq6m, zq86, zq8a, zq89, zq87, zq8h, zq8f, zq9s, zq6g, YC, zq9p, zq9y, t39n8, T39n8, zq9r, zq9t, zq9q, zq5c, zq1o, nth, zq1k, List.length_cons, List.length_nil, Nat.reduceAdd, dropL, takeL, zq19, zq17, zq9j])
    refine call_val (R := fun v => v = .bool (plainB e)) (vs := [e.val]) rfl (fun W hW => plain55 e W) fun v hv => ⟨.bf, by rw [hv, hp]; simp [Is], ?_⟩
    (refine Y_go 600 ?_; dsimp only [zq8t, Y_k, zq4u, zq8o, zq6n, Nat.reduceBEq, zq6k, YK, zq9i, normF, zq6l, zq6m, zq86, zq8a, zq89, zq87, zq8c, zq8h, zq8f, zq9s, zq6g, YC, zq9y, t39n4, T39n4, zq9r, zq9q, zq5t, zq3s, zq3q, zq6h, zq8x, t39n3, T39n3, zq5a, zq14, Nat.reduceAdd, zq5c, zq1o, nth, zq1k, List.length_cons, List.length_nil, dropL, takeL, zq19, zq18, zq5g, List.map, zq6q, zq6u, zq6p, zq21, zq7u, zq73, zq0a, zq20, splice, setn, zq8p, zq22, zq25, zq60, List.cons_append, List.nil_append, zq6v, zq7t, zq8l, zq8m, zq77, zq7i, zq8k, zq83, zq7p, zq5f, zq1z, t39n2, T39n2, zq64, den, blk, zq4j, zq00, zq92, zq4i, zq8s, t39n1, T39n1, zq5h, zq6t, repL, zq23, Nat.reduceMul, zq7y, zq7k, zq24, zq26, zq5l, zq2w, zq09, zq08, zq2s, zq9b, zq2r, zq2n, zq2j, zq2k, denL, zq2l, zq2h, zq9u, popTo, zq6i, YP, zq4w, zq04, zq0e, zqa2, zq9p, zqa1, t39n7, T39n7, zq17, zq9j])
    refine ⟨fun hb => absurd hb (by simp), fun _ => ?_⟩
    refine G.le (E' := ⟨W0, W0.heap.size, st0, 67, []⟩) rfl (s' := { F := [(54, .agg e.sv), (53, .val (.int .i64 n)), (52, .ptr 0 0), (0, .val (.slice A h.length c)), (4, .own 5 0), (5, .mp 4), (7, .ptr 6 0), (8, .ptr 0 0), (10, .val (.slice A h.length c)), (11, .val (.int .i64 h.length)), (12, .val (.int .i64 n))], H := quad 114 85 x hd ++ [.map gm (opV z s.op), .own 94 0 1 oA z.length oc (ptrs z), .cells g 53 e.sv] }) (fun a W rep => (rep.pick [2, 3, 4, 5, 0, 1, 6] (by decide)).le (by simp only [Ev.sv, quad]; (simp only [renF, renV, renVL, renO, pickH, pickE, posOf, setn, List.nil_append, List.cons_append, leF, leH_nil, leH_cons, leF_nil, lk, scp, scpL, scpO, resF, resH, resO, resV, resVL, nth, Nat.reduceBEq, Nat.reduceLT, decide_true, decide_false, List.length, List.length_cons, List.length_nil, Nat.reduceAdd, Bool.and_self, Bool.and_true, and_true, true_and, numF] <;> try simp)) (by simp only [quad, Ev.sv]; (simp only [renF, renV, renVL, renO, pickH, pickE, posOf, setn, List.nil_append, List.cons_append, leF, leH_nil, leH_cons, leF_nil, lk, scp, scpL, scpO, resF, resH, resO, resV, resVL, nth, Nat.reduceBEq, Nat.reduceLT, decide_true, decide_false, List.length, List.length_cons, List.length_nil, Nat.reduceAdd, Bool.and_self, Bool.and_true, and_true, true_and, numF] <;> try simp))) ?_
    refine call_lent (quad 114 85 x hd) [.map gm (opV z s.op), .own 94 0 1 oA z.length oc (ptrs z), .cells g 53 e.sv] (vs := [ptrH hd, .int .i64 n, e.val]) (fun v H1' => v = .tuple #[] ∧ ∃ h' : Hd, h'.g = hd.g ∧ h'.t = hd.t ∧ H1' = (quad 114 85 (hearA x n e) h').map (verO 1)) rfl rfl (fun W _ hW => (hear70 x hd n e (by omega) (by omega) hW).mono fun v W' ⟨hv, h', k1, k2, k3⟩ => ⟨_, ⟨hv, h', k1, k2, rfl⟩, ?_, rfl, k3.vers (quad_shut _ _ _ _) 1⟩) fun v H1' ⟨hv, h', k1, k2, hH⟩ => ⟨.tup [], by rw [hv]; simp [Is, IsL], ?_⟩
    ·exact extB_spec (by simp [extB, quad, verO, SO.blk, bump, k1, k2])
    subst hH
    refine G.le (E' := ⟨W0, W0.heap.size, st0, 67, []⟩) rfl (s' := { F := [(0, .val (.slice A h.length c)), (4, .own 5 0), (5, .mp 4), (7, .ptr 6 0), (8, .ptr 0 0), (10, .val (.slice A h.length c)), (11, .val (.int .i64 h.length)), (12, .val (.int .i64 n))], H := quad 114 85 (hearA x n e) h' ++ [.map gm (opV z s.op), .own 94 0 1 oA z.length oc (ptrs z), .cells g 53 e.sv] }) (fun a W rep => rep.res.le (by simp only [quad, verO, Ev.sv, List.map_cons, List.map_nil, putF]; (simp only [setn, List.nil_append, List.cons_append, leF, leH_nil, leH_cons, leF_nil, lk, scp, scpL, scpO, resF, resH, resO, resV, resVL, nth, Nat.reduceBEq, Nat.reduceLT, decide_true, decide_false, List.length, List.length_cons, List.length_nil, Nat.reduceAdd, Bool.and_self, Bool.and_true, and_true, true_and, numF] <;> try simp)) (by simp only [quad, verO, Ev.sv, List.map_cons, List.map_nil]; (simp only [setn, List.nil_append, List.cons_append, leF, leH_nil, leH_cons, leF_nil, lk, scp, scpL, scpO, resF, resH, resO, resV, resVL, nth, Nat.reduceBEq, Nat.reduceLT, decide_true, decide_false, List.length, List.length_cons, List.length_nil, Nat.reduceAdd, Bool.and_self, Bool.and_true, and_true, true_and, numF] <;> try simp))) ?_
    have hst : sp h (n + 1) = some ⟨s.out.set i (hearA x n e), if (hearA x n e).to ≥ 0 then opDel s.op e.core else s.op⟩ := by
     rw [hnext]; unfold Hs.stepS; rw [h3, hm, hp, ho]
     show some (⟨s.out.set i (hearA (s.out.getD i default) n e), if (hearA (s.out.getD i default) n e).to ≥ 0 then opDel s.op e.core else s.op⟩ : St) = _
     rw [h2]
    have hzm : (z.set i (hearA x n e, h')).map (·.1) = s.out.set i (hearA x n e) := by rw [List.map_set, hz]
    have hptr : ptrs (z.set i (hearA x n e, h')) = ptrs z := ptrs_set hzi _ _ k1
    have fin : ∀ (op' : List (Int × Nat)) (F : List (Nat × SV)) (r : List SO) (a : Act) (W : World), op' = (if (hearA x n e).to ≥ 0 then opDel s.op e.core else s.op) → Rep ⟨W0, W0.heap.size, st0, 67, []⟩ { F := [(0, .val (.slice A h.length c)), (4, .own 1 0), (5, .mp 0), (10, .val (.slice A h.length c)), (11, .val (.int .i64 h.length)), (12, .val (.int .i64 ((n + 1 : Nat) : Int)))], H := [.map gm (opV z op'), .own 94 0 1 oA z.length oc (ptrs z)] ++ quad 114 85 (hearA x n e) h' } a W → I a W := by
     intro op' F r a W hop r1
     subst hop
     have r2 := Rep.back hW0 (famQ_shut _ _ _) r1 (by rw [hst0]; exact Over.refl _) rfl rfl
     have r3 := Rep.fam' (b := [.map gm (opV z (if (hearA x n e).to ≥ 0 then opDel s.op e.core else s.op)), .own 94 0 1 oA z.length oc (ptrs z)]) (r := quad 114 85 (hearA x n e) h' ++ famQ 114 85 (z.eraseIdx i)) r2 (by (simp only [setn, List.nil_append, List.cons_append, leF, leH_nil, leH_cons, leF_nil, lk, scp, scpL, scpO, resF, resH, resO, resV, resVL, nth, Nat.reduceBEq, Nat.reduceLT, decide_true, decide_false, List.length, List.length_cons, List.length_nil, Nat.reduceAdd, Bool.and_self, Bool.and_true, and_true, true_and, numF] <;> try simp)) rfl (fun e he => by
      rcases List.mem_append.1 he with h2 | h2
      ·exact quad_shut _ _ _ _ e h2
      ·exact famQ_shut _ _ _ e h2) (famQ_in 114 85 _ _ hiz)
     refine again ⟨n + 1, _, z.set i (hearA x n e, h'), oA, oc, gm⟩ ⟨hlt, hst, hzm⟩ (by simp only; omega) a W ?_
     simp only [hptr, List.length_set, opV_eq _ hptr]
     exact r3
    simp only [quad, Ev.sv, List.cons_append, List.nil_append]
    (refine Y_go 600 ?_; dsimp only [zq9i, normF, zq6n, Nat.reduceBEq, zq6k, zq6l, zq6m, zq86, zq87, zq8c, zq8h, zq8f, zq9y, t39n6, T39n6, zq9r, zq9q, Y_k, zq4u, zq8o, YK, zq8t, zq5i, zq29, zq5a, zq14, Nat.add_zero, Nat.reduceAdd, zq5c, zq1o, nth, zq1l, zq1c, List.nil_append, zq1b, zq18, zq50, zq8p, zq6q, zq04, zq92, zq9b, zq0i, zq9h, zq9s, zq6h, zq8x, YC, t39n5, T39n5, zq1k, List.length_cons, List.length_nil, dropL, takeL, zq19, zq65, zq4l, zq00, zq4k, setn, zq8s, zq89, zqa1, zq4w, zq0e, zqa2, zq9p, zq8a])
    refine ⟨_, rfl, fun hto => ⟨opV_keys _ _, ((n + 1 : Nat) : Int), ArOk.to (by omega) (by omega) (by omega), lend_rule fun a W rep => ?_⟩, fun hto => ⟨((n + 1 : Nat) : Int), ArOk.to (by omega) (by omega) (by omega), lend_rule fun a W rep => ?_⟩⟩
    ·rw [mrem_op] at rep
     exact fin (opDel s.op e.core) [] [] a W (by rw [if_pos (of_decide_eq_true hto)]) ((rep.res.pick [4, 5, 0, 1, 2, 3] (by decide)).le (by simp only [quad]; (simp only [renF, renV, renVL, renO, pickH, pickE, posOf, setn, List.nil_append, List.cons_append, leF, leH_nil, leH_cons, leF_nil, lk, scp, scpL, scpO, resF, resH, resO, resV, resVL, nth, Nat.reduceBEq, Nat.reduceLT, decide_true, decide_false, List.length, List.length_cons, List.length_nil, Nat.reduceAdd, Bool.and_self, Bool.and_true, and_true, true_and, numF] <;> try simp)) (by simp only [quad]; (simp only [renF, renV, renVL, renO, pickH, pickE, posOf, setn, List.nil_append, List.cons_append, leF, leH_nil, leH_cons, leF_nil, lk, scp, scpL, scpO, resF, resH, resO, resV, resVL, nth, Nat.reduceBEq, Nat.reduceLT, decide_true, decide_false, List.length, List.length_cons, List.length_nil, Nat.reduceAdd, Bool.and_self, Bool.and_true, and_true, true_and, numF] <;> try simp)))
    ·exact fin s.op [] [] a W (by rw [if_neg (of_decide_eq_false hto)]) ((rep.res.pick [4, 5, 0, 1, 2, 3] (by decide)).le (by simp only [quad]; (simp only [renF, renV, renVL, renO, pickH, pickE, posOf, setn, List.nil_append, List.cons_append, leF, leH_nil, leH_cons, leF_nil, lk, scp, scpL, scpO, resF, resH, resO, resV, resVL, nth, Nat.reduceBEq, Nat.reduceLT, decide_true, decide_false, List.length, List.length_cons, List.length_nil, Nat.reduceAdd, Bool.and_self, Bool.and_true, and_true, true_and, numF] <;> try simp)) (by simp only [quad]; (simp only [renF, renV, renVL, renO, pickH, pickE, posOf, setn, List.nil_append, List.cons_append, leF, leH_nil, leH_cons, leF_nil, lk, scp, scpL, scpO, resF, resH, resO, resV, resVL, nth, Nat.reduceBEq, Nat.reduceLT, decide_true, decide_false, List.length, List.length_cons, List.length_nil, Nat.reduceAdd, Bool.and_self, Bool.and_true, and_true, true_and, numF] <;> try simp)))
end Go.Proofs.Ytbkpiljencaoeaa
