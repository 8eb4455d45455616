/- graph.behind: who is behind whom, as a table. -/
import Derived.Test.YtbkpiljencaoeaaGrM0
import Derived.Test.YtbkpiljencaoeaaGrReach
import Derived.Test.YtbkpiljencaoeaaGrCode
set_option linter.unusedSimpArgs false
set_option linter.unusedVariables false
set_option linter.unnecessarySimpa false
namespace Go.Proofs.Ytbkpiljencaoeaa
open Go Go.Sx Go.Gr
set_option maxRecDepth 100000
theorem rowE_rd {E : Env} {A : Option Addr} {xs : List Value} (h : RowE E A xs) {k : Nat} (hk : xs.length = k) (h1 : ∀ u ∈ xs, u.oneCell' = true) : RdOld E A k xs := by
 refine ⟨hk, fun hp => ?_, h1⟩
 obtain ⟨a, ha, hb, _⟩ := h 0 _ (List.getElem?_eq_getElem (by omega))
 refine ⟨a, ha, hb, fun j u hj => ?_⟩
 obtain ⟨a', ha', _, hc⟩ := h j u hj
 rw [ha] at ha'; injection ha' with ha'; subst ha'; exact hc
theorem isV_one (l : List Int) : ∀ u ∈ isV l, u.oneCell' = true := by
 intro u hu
 unfold isV at hu
 obtain ⟨x, _, rfl⟩ := List.mem_map.1 hu
 rfl
theorem clone47 (A : Option Addr) (c : Nat) (l : List Int) (w : World) (hA : RowAt w A (isV l)) (hl : l.length ≤ 2000000) :
  CallsV Try.prog 47 [.slice A l.length c] w fun v w' => World.ownsB w' w.heap.size 3 1 v l.length (isV l) ∧ Fresh w w' := by
 refine calls_go (keep := K47) (nt := 8) (svs := [.val (.slice A l.length c)]) Try.func47 x47 n47 (by simp) (by simp [IsL, Is]) fun R hR => ?_
 (refine Y_go 600 ?_; dsimp only [X47, numF, Nat.reduceAdd, zq9r, zq9q, Y_k, zq4u, zq8p, zq6u, YK, zq8t, zq9i, normF, zq6n, Nat.reduceBEq, zq6l, zq6k, zq6m, zq86, zq87, zq9y, t47n2, T47n2, zq8o, zq5t, zq3w, zq3q, zq9s, zq6h, zq8x, YC, t47n0, T47n0, zq89, zq9x, zq9p, t47n1, T47n1, zq5h, List.map, zq6q, repL, zq24, zq26, List.length_nil, List.nil_append, zq5l, zq2x, nth, zq2u, Nat.reduceMul, denL, zq2t, zq2r, zq2o, zq2i, List.length_cons, setn, List.cons_append, zq8a, zq8f])
 refine ⟨fun h => ?_, fun h g => ?_⟩
 ·have hl0 : l = [] := by
   cases l with
   | nil => rfl
   | cons x l => have := hA.isSome (j := 0) (by simp [isV]); cases A <;> simp_all
  subst hl0
  exact ret_rule (vs := [.slice none 0 0]) r47 rfl rfl fun W hW => hR _ _ ⟨ownsB_nil _ _ _ _, hW.fresh'⟩
 ·have hrd := hA.rd (nt := 8) (isV_one l)
  rw [isV_len, ← Nat.mul_one l.length] at hrd
  refine ⟨_, hrd, ⟨by simp only [maxLen]; omega, by omega⟩, fun A1 c1 => ?_⟩
  refine ret_rule (vs := [.slice A1 (0 + l.length) c1]) r47 rfl rfl fun W hW => hR _ _ ⟨?_, hW.fresh'⟩
  have := hW.owns (i := 1) rfl
  rw [Nat.zero_add] at this
  rw [Nat.zero_add]; exact this
theorem nxU_none {l : List Ed} {k : Int} (h : k ∉ keysR l []) : nxU l k = [] := by
 unfold nxU; rw [nxR_none h, upI_nil]
theorem look_z {E : Env} {H1 r : List SO} {W : World} {l : List Ed} {z : List (Int × NHd)} (hz : z.map (·.1) = keysR l []) (hW : HeapOk E (H1 ++ r) W) (hin : ∀ e ∈ famZ (nxU l) z, e ∈ r) (nt : Nat) (mk : List Nat) (k : Int) :
  ∃ A c, (mget (kvZ (nxU l) z) (.int .i64 k)).getD (.slice none 0 0) = .slice A (nxU l k).length c ∧ RowE ⟨W, W.heap.size, fps H1, nt, mk⟩ A (isV (nxU l k)) := by
 have hnd : (z.map (·.1)).Nodup := by rw [hz]; exact keysR_nodup _ _ (by simp)
 by_cases hk : k ∈ z.map (·.1)
 ·obtain ⟨p, hp, rfl⟩ := List.mem_map.1 hk
  obtain ⟨j, hj⟩ := List.getElem?_of_mem hp
  refine ⟨p.2.A, p.2.c, by rw [mget_some _ hnd hj]; rfl, ?_⟩
  exact hW.offO (hin (SO.own 3 0 1 p.2.A (nxU l p.1).length p.2.c (isV (nxU l p.1))) (List.mem_map.2 ⟨p, hp, rfl⟩)) nt mk
 ·refine ⟨none, 0, ?_, ?_⟩
  ·rw [mget_none _ z k hk, nxU_none (by rw [← hz]; exact hk)]; rfl
  ·rw [nxU_none (by rw [← hz]; exact hk)]
   intro j u hj
   cases hj
structure TQ where
 i : Nat
 gs : Nat → Nat
 B : Option Addr
 c : Nat
abbrev grO (gm gg : Nat) (n : Int) (l : List Ed) (z : List (Int × NHd)) : List SO := [.map gm (kvZ (nxU l) z), .cells gg 67 [.val (.int .i64 n), .mp 0]]
theorem behind26 {b : World} {N nt0 : Nat} {st mk0 : List Nat} {W : World} (n : Nat) (l : List Ed) (gm gg : Nat) (z : List (Int × NHd)) (hz : z.map (·.1) = keysR l []) (hok : okG n l)
  (hW : HeapOk ⟨b, N, st, nt0, mk0⟩ (grO gm gg n l z ++ famZ (nxU l) z) W) :
  CallsV Try.prog 26 [.pointer (some ⟨gg, 0, none⟩)] W fun v W' => ∃ B bc gs, v = .slice B n bc ∧ HeapOk ⟨b, N, st, nt0, mk0⟩ ((grO gm gg n l z ++ [.own 38 0 1 B n bc (tabV gs n n)]) ++ (tabF 4 gs (bhB l) n n ++ famZ (nxU l) z)) W' := by
 refine calls_lent (keep := K26) (nt := 63) (svs := [.ptr 1 0]) Try.func26 x26 n26 (by simp) hW (by simp [IsL, Is, blk, nth]) fun R hR => ?_
 (refine Y_go 600 ?_; dsimp only [X26, numF, Nat.reduceAdd, List.cons_append, List.nil_append, zq9r, zq9q, Y_k, zq4u, zq8p, zq6u, YK, zq8t, zq9i, normF, zq6n, Nat.reduceBEq, zq6l, zq6k, zq6m, zq86, zq87, zq8c, zq9y, t26n15, T26n15, t26n14, T26n14, zq8o, zq5i, zq29, zq5a, zq14, Nat.add_zero, zq5c, zq1o, nth, zq1k, List.length_cons, List.length_nil, dropL, takeL, zq19, zq18, zq6q, zq9t, zq9v])
 have hnd : (z.map (·.1)).Nodup := by rw [hz]; exact keysR_nodup _ _ (by simp)
 have hn5 : n ≤ 500 := by have := hok.2.1; omega
 have hl2 := hok.2.2.1
 have hfl : ∀ k, (nxU l k).length ≤ 20000 := fun k => Nat.le_trans (nxU_len l k) hl2
 have shut : ∀ (gs : Nat → Nat) (i : Nat), ∀ e ∈ tabF 4 gs (bhB l) i n ++ famZ (nxU l) z, scpO 0 e = true := fun gs i e he => by
  rcases List.mem_append.1 he with h | h
  ·exact tabF_shut _ _ _ _ _ e h
  ·exact famZ_shut _ _ e h
 refine G.cut (H1 := grO gm gg n l z) (r := famZ (nxU l) z) rfl (by (simp only [setn, List.nil_append, List.cons_append, leF, leH_nil, leH_cons, leF_nil, lk, scp, scpL, scpO, resF, resH, resO, resV, resVL, nth, Nat.reduceBEq, Nat.reduceLT, decide_true, decide_false, List.length, List.length_cons, List.length_nil, Nat.reduceAdd, Bool.and_self, Bool.and_true, and_true, true_and, numF] <;> try simp)) fun W0 hW0 hov => ?_
 refine loop_go (α := TQ) (fun q => q.i ≤ n) (fun _ => ⟨b, N, st, 63, []⟩)
  (fun q => { F := [(0, .ptr 1 0), (3, .own 2 0), (11, .val (.int .i64 n)), (12, .val (.int .i64 q.i))], H := (grO gm gg n l z ++ [.own 38 0 1 q.B q.i q.c (tabV q.gs q.i n)]) ++ (tabF 4 q.gs (bhB l) q.i n ++ famZ (nxU l) z) }) (fun q => n - q.i) (fun _ => rfl) ?start ?round
 case start =>
  intro a W1 rep
  have r1 : Rep ⟨W0, W0.heap.size, fps (grO gm gg n l z), 63, []⟩ { F := [(0, .ptr 1 0), (3, .own 2 0), (11, .val (.int .i64 n)), (12, .val (.int .i64 ((0 : Nat) : Int)))], H := grO gm gg n l z ++ [.own 38 0 1 none 0 0 (tabV (fun _ => 0) 0 n)] } a W1 := (rep.adopt 3 38 1 rfl).le (by (simp only [setn, List.nil_append, List.cons_append, leF, leH_nil, leH_cons, leF_nil, lk, scp, scpL, scpO, resF, resH, resO, resV, resVL, nth, Nat.reduceBEq, Nat.reduceLT, decide_true, decide_false, List.length, List.length_cons, List.length_nil, Nat.reduceAdd, Bool.and_self, Bool.and_true, and_true, true_and, numF] <;> try simp)) (by simp only [tabV, List.range_zero, List.map_nil]; (simp only [setn, List.nil_append, List.cons_append, leF, leH_nil, leH_cons, leF_nil, lk, scp, scpL, scpO, resF, resH, resO, resV, resVL, nth, Nat.reduceBEq, Nat.reduceLT, decide_true, decide_false, List.length, List.length_cons, List.length_nil, Nat.reduceAdd, Bool.and_self, Bool.and_true, and_true, true_and, numF] <;> try simp))
  refine ⟨⟨0, fun _ => 0, none, 0⟩, Nat.zero_le _, ?_⟩
  simp only [tabF, List.range_zero, List.map_nil, List.nil_append]
  exact Rep.back hW0 (famZ_shut _ _) r1 (Over.refl _) rfl rfl
 case round =>
  rintro ⟨i, gs, B, bc⟩ hi I again
  simp only at hi ⊢
  refine G.cut (F := [(0, .ptr 1 0), (3, .own 2 0), (11, .val (.int .i64 n)), (12, .val (.int .i64 i))]) (H1 := grO gm gg n l z ++ [.own 38 0 1 B i bc (tabV gs i n)]) (r := tabF 4 gs (bhB l) i n ++ famZ (nxU l) z) rfl (by (simp only [setn, List.nil_append, List.cons_append, leF, leH_nil, leH_cons, leF_nil, lk, scp, scpL, scpO, resF, resH, resO, resV, resVL, nth, Nat.reduceBEq, Nat.reduceLT, decide_true, decide_false, List.length, List.length_cons, List.length_nil, Nat.reduceAdd, Bool.and_self, Bool.and_true, and_true, true_and, numF] <;> try simp)) fun W1 hW1 hov1 => ?_
  have hlook := look_z hz hW1 (fun e he => List.mem_append_right _ he) 63 []
  (refine Y_go 600 ?_; dsimp only [List.cons_append, List.nil_append, zq9y, t26n12, T26n12, zq9r, zq9q, Y_k, zq50, zq8o, zq6n, Nat.reduceBEq, zq6l, zq6k, zq04, zq92, zq9b, zq0i, zq9e, YK, zq8t, zq9i, normF, zq6m, zq86, zq87, zq8f, zq8c, t26n11, T26n11, zq9s, zq6h, zq8x, YC, zq9p, t26n10, T26n10, zq9t, zq4u, zq89, t26n9, T26n9, zq5i, zq29, zq5a, zq14, Nat.add_zero, zq5c, zq1o, nth, zq1k, List.length_cons, List.length_nil, Nat.reduceAdd, dropL, takeL, zq19, zq18, zq67, zq06, zq4t, t26n8, T26n8, zq61, zq4h, zq00, zq4g, zq4f, zq9j, zq9u, popTo, zq6i, YP, t26n13, T26n13, zq8a, zq9x])
  refine ⟨fun hlt => ?_, fun hge => ?_⟩
  ·have hlt : i < n := by have := of_decide_eq_true hlt; omega
   obtain ⟨A, c, hA1, hA2⟩ := hlook i
   refine ⟨⟨by omega, by omega, by omega, by omega⟩, fun g => ⟨kvZ_keys _ _, _, rfl, .val (.slice A (nxU l i).length c), by rw [hA1]; rfl, ?_⟩⟩
   rw [Int.toNat_natCast, rwV_zero]
   refine call_own (vs := [.slice A (nxU l i).length c]) rfl (t := 3) (sz := 1) (n := (nxU l i).length) (xs := isV (nxU l i)) (fun W hW => clone47 A c _ W (hA2.at hW) (by have := hfl i; omega)) fun A2 c2 => ?_
   dsimp only [List.length_cons, List.length_nil, Nat.reduceAdd, zq8t, List.cons_append, List.nil_append]
   (refine Y_go 600 ?_; dsimp only [Y_k, zq4u, zq8o, zq6n, Nat.reduceBEq, zq6k, YK, zq8t, zq9i, normF, zq6l, zq6m, zq86, zq89, zq87, zq8f, zq8c, zq9y, t26n7, T26n7, zq9r, zq9t, zq9v])
   refine loop_go (α := (Nat → Bool) × List Int × Option Addr × Nat) (fun q => DInv l i q.1 q.2.1 ∧ q.2.1.length + 20000 * cntN n q.1 ≤ 20000 * n + 20000) (fun _ => ⟨W1, W1.heap.size, fps (grO gm gg n l z ++ [.own 38 0 1 B i bc (tabV gs i n)]), 63, []⟩)
    (fun q => { F := [(0, .ptr 1 0), (3, .own 2 0), (4, .val (.int .i64 i)), (5, .own 3 0), (6, .own 4 0), (11, .val (.int .i64 n)), (12, .val (.int .i64 i))], H := [.map gm (kvZ (nxU l) z), .cells gg 67 [.val (.int .i64 n), .mp 0], .own 38 0 1 B i bc (tabV gs i n), .own 4 0 1 (some ⟨g, 0, none⟩) n n (rwV n q.1), .own 3 0 1 q.2.2.1 q.2.1.length q.2.2.2 (isV q.2.1)] })
    (fun q => q.2.1.length + 20001 * cntN n q.1) (fun _ => rfl) ?start2 ?round2
   case start2 =>
    intro a W rep
    refine ⟨(fun _ => false, nxU l i, A2, c2), ⟨DInv.start l i, ?_⟩, rep.le (by (simp only [setn, List.nil_append, List.cons_append, leF, leH_nil, leH_cons, leF_nil, lk, scp, scpL, scpO, resF, resH, resO, resV, resVL, nth, Nat.reduceBEq, Nat.reduceLT, decide_true, decide_false, List.length, List.length_cons, List.length_nil, Nat.reduceAdd, Bool.and_self, Bool.and_true, and_true, true_and, numF] <;> try simp)) (by (simp only [setn, List.nil_append, List.cons_append, leF, leH_nil, leH_cons, leF_nil, lk, scp, scpL, scpO, resF, resH, resO, resV, resVL, nth, Nat.reduceBEq, Nat.reduceLT, decide_true, decide_false, List.length, List.length_cons, List.length_nil, Nat.reduceAdd, Bool.and_self, Bool.and_true, and_true, true_and, numF] <;> try simp))⟩
    simp only [cntN_zero]
    have := hfl i; omega
   case round2 =>
    rintro ⟨row, ws, A, c⟩ ⟨hI, hm⟩ I2 again2
    simp only at hI hm ⊢
    (refine Y_go 32 ?_; dsimp only [List.cons_append, List.nil_append, zq9y, t26n5, T26n5, zq9r, zq9q, Y_k, zq4u, zq8o, zq6n, Nat.reduceBEq, zq6l, zq6k, YK, zq8t, zq55, zq0t, nth, zq09, zq08, zq0q, zq50, zq8p, zq6q, zq04, zq92, zq9b, zq0i, zq9g, zq9i, normF, zq6m, zq86, zq87, zq8f, zq8c, zq9s, zq6h, zq8x, YC, zq9p, t26n4, T26n4, zq9t, zq4w, zq0e, zq58, zq06, zq0y, zq0v, zq5c, zq1q, zq1n, zq1c, zq1b, zq18, zq89, t26n3, T26n3, zq5o, zq3a, zq39, zq37, zq3i, zq3d, zq97, Int.reduceToNat, Y_0, zq9u, popTo, zq6i, YP, t26n6, T26n6, zq5h, List.map, zq6u, repL, zq23, Nat.reduceMul, zq81, zq7n, zq0a, dropL, takeL, zq20, splice, setn, zq24, zq26, List.length_cons, List.length_nil, Nat.reduceAdd, zq5l, zq2w, zq2s, zq2r, zq2n, zq2j, zq2k, zq8l, zq8m, zq8k, denL, den, zq2l, zq2h, zq8a, zqa1, zqa2])
    refine ⟨fun hpos => ?_, fun hz0 => ?_⟩
    ·have hne : ws ≠ [] := by intro e; subst e; simp at hpos
     obtain ⟨ws', w, rfl⟩ : ∃ ws' w, ws = ws' ++ [w] := ⟨ws.dropLast, ws.getLast hne, (List.dropLast_concat_getLast hne).symm⟩
     have hwl : (ws' ++ [w]).length = ws'.length + 1 := by simp
     have hcn := (hI.cand w (by simp)).lt hok
     have hle : ws'.length ≤ 11000000 := by omega
     refine ⟨(ws'.length : Int), ArOk.toSub (by rw [hwl]; omega) (by omega) (by omega), ⟨by omega, by rw [hwl]; omega⟩, w, ?_, (ws'.length : Int), ArOk.toSub (by rw [hwl]; omega) (by omega) (by omega), ⟨by omega, by omega, by rw [hwl]; omega⟩, ?_⟩
     ·refine isV_get _ _ _ ?_
      rw [Int.toNat_natCast, Nat.mul_one]; simp
     obtain ⟨m, rfl⟩ : ∃ m : Nat, (m : Int) = w := ⟨w.toNat, by omega⟩
     have hmn : m < n := by omega
     have hm1 : ((m : Nat) : Int).toNat = m := by omega
     have raw : G (cxOf Try.prog Try.f26 K26 T26 R) ⟨W1, W1.heap.size, fps (grO gm gg n l z ++ [.own 38 0 1 B i bc (tabV gs i n)]), 63, []⟩ [.code (.ref 2), .blk 3, .lend I2, .blk 2, .code (.ref 6), .blk 1, .code (.ops [{ dst := some 61, guard := none, i := .k (.arith .add .i64 (.tmp 12) (.const (.int .i64 1))) }, { dst := some 12, guard := none, i := .k (.mov (.tmp 61)) }]), .lend I, .blk 0, .code (.ref 13)] { F := [(0, .ptr 1 0), (3, .own 2 0), (4, .val (.int .i64 i)), (5, .own 3 0), (6, .own 4 0), (7, .val (.int .i64 m)), (11, .val (.int .i64 n)), (12, .val (.int .i64 i))], H := [.map gm (kvZ (nxU l) z), .cells gg 67 [.val (.int .i64 n), .mp 0], .own 38 0 1 B i bc (tabV gs i n), .own 4 0 1 (some ⟨g, 0, none⟩) n n (rwV n row), .own 3 0 1 A ws'.length c (isV ws')] } := by
      (refine Y_go 600 ?_; dsimp only [List.cons_append, List.nil_append, zq9y, t26n2, T26n2, zq9r, zq9q, Y_k, zq4u, zq8o, zq6n, Nat.reduceBEq, zq6l, zq6k, YK, zq8t, zq58, zq06, zq0y, nth, zq09, zq08, zq0v, zq5c, zq1q, zq1n, zq1d, zq1b, zq18, zq53, zq0o, zq9i, normF, zq6m, zq87, zq86, zq8f, zq8c, zq9s, zq6h, zq8x, YC, t26n1, T26n1, zq5d, zq8p, zq6o, zq7v, zq7h, zq0a, zq1y, zq1w, denL, den, zq1v, splice, setn, zq8s, zq89, t26n0, T26n0, zq5i, zq29, zq5a, zq14, Nat.reduceAdd, zq1o, zq1k, List.length_cons, List.length_nil, dropL, takeL, zq19, zq61, zq4h, zq00, zq92, zq4g, zq4f, zq5l, zq2w, zq2s, zq9b, zq2r, zq9p, zqa1, zqa2])
      have hcn2 := cntN_set n (row := row) hmn
      obtain ⟨A3, c3, hA3, hR3⟩ := hlook m
      refine ⟨⟨by omega, by omega⟩, row m, by rw [hm1, Nat.mul_one]; exact rwV_get _ hmn, fun hb => ?_, fun hb => ?_⟩
      ·have hb : row m = false := by simpa using hb
       have hcn3 := hcn2 hb
       refine ⟨⟨by omega, by omega⟩, by rw [rwV_len, hm1]; omega, kvZ_keys _ _, _, rfl, .val (.slice A3 (nxU l m).length c3), by rw [hA3]; rfl, ?_⟩
       dsimp only [zq2o, zq2h, Nat.reduceAdd, setn, YK, zq8t, Y_k, zq4u, zq8o, zq6n, Nat.reduceBEq, zq6k, zq9i, normF, zq6l, zq6m, zq89, zq86, zq87, zq8f, zq8c, zqa1, zqa2]
       have hf := hfl m
       refine ⟨isV (nxU l m), rowE_rd hR3 (by rw [isV_len, Nat.mul_one]) (isV_one _), ⟨by simp only [maxLen]; omega, by omega⟩, fun A4 c4 => ?_⟩
       refine lend_rule fun a W rep => again2 ((fun j => if j = m then true else row j), ws' ++ nxU l m, A4, c4) ⟨?_, ?_⟩ ?_ a W ?_
       ·have := hI.mark hok
        rw [hm1] at this; exact this
       ·simp only [List.length_append] at hm ⊢; omega
       ·simp only [List.length_append, List.length_cons, List.length_nil]; omega
       ·rw [hm1, Nat.mul_one, rwV_set row true hmn] at rep
        simp only [List.length_append]
        have e3 : isV (ws' ++ nxU l m) = isV ws' ++ isV (nxU l m) := by simp [isV]
        rw [e3]
        exact rep.res.le (by (simp only [setn, List.nil_append, List.cons_append, leF, leH_nil, leH_cons, leF_nil, lk, scp, scpL, scpO, resF, resH, resO, resV, resVL, nth, Nat.reduceBEq, Nat.reduceLT, decide_true, decide_false, List.length, List.length_cons, List.length_nil, Nat.reduceAdd, Bool.and_self, Bool.and_true, and_true, true_and, numF] <;> try simp)) (by (simp only [setn, List.nil_append, List.cons_append, leF, leH_nil, leH_cons, leF_nil, lk, scp, scpL, scpO, resF, resH, resO, resV, resVL, nth, Nat.reduceBEq, Nat.reduceLT, decide_true, decide_false, List.length, List.length_cons, List.length_nil, Nat.reduceAdd, Bool.and_self, Bool.and_true, and_true, true_and, numF] <;> try simp))
      ·have hb : row m = true := by simpa using hb
       refine lend_rule fun a W rep => again2 (row, ws', A, c) ⟨hI.skip (by rw [hm1]; exact hb), by rw [hwl] at hm; simp only; omega⟩ (by simp) a W (rep.le (by (simp only [setn, List.nil_append, List.cons_append, leF, leH_nil, leH_cons, leF_nil, lk, scp, scpL, scpO, resF, resH, resO, resV, resVL, nth, Nat.reduceBEq, Nat.reduceLT, decide_true, decide_false, List.length, List.length_cons, List.length_nil, Nat.reduceAdd, Bool.and_self, Bool.and_true, and_true, true_and, numF] <;> try simp)) (by (simp only [setn, List.nil_append, List.cons_append, leF, leH_nil, leH_cons, leF_nil, lk, scp, scpL, scpO, resF, resH, resO, resV, resVL, nth, Nat.reduceBEq, Nat.reduceLT, decide_true, decide_false, List.length, List.length_cons, List.length_nil, Nat.reduceAdd, Bool.and_self, Bool.and_true, and_true, true_and, numF] <;> try simp)))
     refine fun a W rep => raw a W (((rep.le (s' := { F := [(0, .ptr 1 0), (3, .own 2 0), (4, .val (.int .i64 i)), (5, .own 3 0), (7, .val (.int .i64 m)), (11, .val (.int .i64 n)), (12, .val (.int .i64 i)), (6, .val (.slice A ws'.length c))], H := [.map gm (kvZ (nxU l) z), .cells gg 67 [.val (.int .i64 n), .mp 0], .own 38 0 1 B i bc (tabV gs i n), .own 4 0 1 (some ⟨g, 0, none⟩) n n (rwV n row), .own 3 0 1 A (ws' ++ [(m : Int)]).length c (isV (ws' ++ [(m : Int)]))] }) (by (simp only [setn, List.nil_append, List.cons_append, leF, leH_nil, leH_cons, leF_nil, lk, scp, scpL, scpO, resF, resH, resO, resV, resVL, nth, Nat.reduceBEq, Nat.reduceLT, decide_true, decide_false, List.length, List.length_cons, List.length_nil, Nat.reduceAdd, Bool.and_self, Bool.and_true, and_true, true_and, numF] <;> try simp)) (by (simp only [setn, List.nil_append, List.cons_append, leF, leH_nil, leH_cons, leF_nil, lk, scp, scpL, scpO, resF, resH, resO, resV, resVL, nth, Nat.reduceBEq, Nat.reduceLT, decide_true, decide_false, List.length, List.length_cons, List.length_nil, Nat.reduceAdd, Bool.and_self, Bool.and_true, and_true, true_and, numF] <;> try simp))).trunc 6 (i := 4) ws'.length rfl rfl (by rw [hwl]; omega)).res.le (by (simp only [setn, List.nil_append, List.cons_append, leF, leH_nil, leH_cons, leF_nil, lk, scp, scpL, scpO, resF, resH, resO, resV, resVL, nth, Nat.reduceBEq, Nat.reduceLT, decide_true, decide_false, List.length, List.length_cons, List.length_nil, Nat.reduceAdd, Bool.and_self, Bool.and_true, and_true, true_and, numF] <;> try simp)) ?_)
     (simp only [setn, List.nil_append, List.cons_append, leF, leH_nil, leH_cons, leF_nil, lk, scp, scpL, scpO, resF, resH, resO, resV, resVL, nth, Nat.reduceBEq, Nat.reduceLT, decide_true, decide_false, List.length, List.length_cons, List.length_nil, Nat.reduceAdd, Bool.and_self, Bool.and_true, and_true, true_and, numF] <;> try simp)
     rw [← isV_len ws', isV, isV, List.map_append, List.take_left]
    ·have hws : ws = [] := List.length_eq_zero_iff.1 (by have := of_decide_eq_false hz0; omega)
     subst hws
     refine fun g1 => ⟨⟨by simp only [maxLen]; omega, by omega⟩, fun B2 bc2 => ⟨((i + 1 : Nat) : Int), ArOk.to (by omega) (by omega) (by omega), lend_rule fun a W rep => again ⟨i + 1, fun a => if a = i then g else gs a, B2, bc2⟩ hlt (by simp only; omega) a W ?_⟩⟩
     have hrow : rwV n row = rwV n (bhB l i) := rwV_congr fun k _ => hI.fin hok k
     have e1 : tabV (fun a => if a = i then g else gs a) (i + 1) n = tabV gs i n ++ [.slice (some ⟨g, 0, none⟩) n n] := by
      rw [tabV_succ, if_pos rfl, tabV_congr (gs' := gs) fun a ha => if_neg (by omega)]
     have e2 : tabF 4 (fun a => if a = i then g else gs a) (bhB l) (i + 1) n = tabF 4 gs (bhB l) i n ++ [.own 4 0 1 (some ⟨g, 0, none⟩) n n (rwV n (bhB l i))] := by
      rw [tabF_succ, if_pos rfl, tabF_congr (gs' := gs) (M' := bhB l) fun a ha => ⟨if_neg (by omega), fun _ _ => rfl⟩]
     simp only [e1, e2]
     rw [hrow] at rep
     have r1 : Rep ⟨W1, W1.heap.size, fps (grO gm gg n l z ++ [.own 38 0 1 B i bc (tabV gs i n)]), 63, []⟩ { F := [(0, .ptr 1 0), (3, .own 2 0), (11, .val (.int .i64 n)), (12, .val (.int .i64 ((i + 1 : Nat) : Int)))], H := [.map gm (kvZ (nxU l) z), .cells gg 67 [.val (.int .i64 n), .mp 0], .own 38 0 1 B2 (i + 1) bc2 (tabV gs i n ++ [.slice (some ⟨g, 0, none⟩) n n]), .own 4 0 1 (some ⟨g, 0, none⟩) n n (rwV n (bhB l i))] } a W := rep.res.le (by (simp only [setn, List.nil_append, List.cons_append, leF, leH_nil, leH_cons, leF_nil, lk, scp, scpL, scpO, resF, resH, resO, resV, resVL, nth, Nat.reduceBEq, Nat.reduceLT, decide_true, decide_false, List.length, List.length_cons, List.length_nil, Nat.reduceAdd, Bool.and_self, Bool.and_true, and_true, true_and, numF] <;> try simp)) (by (simp only [setn, List.nil_append, List.cons_append, leF, leH_nil, leH_cons, leF_nil, lk, scp, scpL, scpO, resF, resH, resO, resV, resVL, nth, Nat.reduceBEq, Nat.reduceLT, decide_true, decide_false, List.length, List.length_cons, List.length_nil, Nat.reduceAdd, Bool.and_self, Bool.and_true, and_true, true_and, numF] <;> try simp))
     have r2 := Rep.back hW1 (shut gs i) r1 (Over.refl _) rfl rfl
     refine Rep.fam' (b := grO gm gg n l z ++ [.own 38 0 1 B2 (i + 1) bc2 (tabV gs i n ++ [.slice (some ⟨g, 0, none⟩) n n])]) (r := .own 4 0 1 (some ⟨g, 0, none⟩) n n (rwV n (bhB l i)) :: (tabF 4 gs (bhB l) i n ++ famZ (nxU l) z)) r2 (by (simp only [setn, List.nil_append, List.cons_append, leF, leH_nil, leH_cons, leF_nil, lk, scp, scpL, scpO, resF, resH, resO, resV, resVL, nth, Nat.reduceBEq, Nat.reduceLT, decide_true, decide_false, List.length, List.length_cons, List.length_nil, Nat.reduceAdd, Bool.and_self, Bool.and_true, and_true, true_and, numF] <;> try simp)) rfl (fun e he => ?_) ?_
     ·rcases List.mem_cons.1 he with rfl | h
      ·rfl
      ·exact shut gs i e h
     ·rw [List.append_assoc]
      exact List.perm_middle.symm
  ·have hie : i = n := by have := of_decide_eq_false hge; omega
   subst hie
   exact ret_rule (vs := [.slice B i bc]) r26 rfl rfl fun W hW => hR _ _ ⟨B, bc, gs, rfl, by
    have := hW1.back (shut gs i) hW
    exact ⟨this.keep, this.floor, this.ents, this.fresh, this.dist⟩⟩
end Go.Proofs.Ytbkpiljencaoeaa
