/- graph.Cycle. -/
import Derived.Test.YtbkpiljencaoeaaGrB2
import Derived.Test.YtbkpiljencaoeaaGrS1
import Derived.Test.YtbkpiljencaoeaaGrS2
import Derived.Test.YtbkpiljencaoeaaGrCyc
import Derived.Test.YtbkpiljencaoeaaGrCode
set_option linter.unusedSimpArgs false
set_option linter.unusedVariables false
set_option linter.unnecessarySimpa false
namespace Go.Proofs.Ytbkpiljencaoeaa
open Go Go.Sx Go.Gr
set_option maxRecDepth 100000
theorem row_drop {E : Env} {H : List SO} {W : World} (h : HeapOk E H W) {i ver c : Nat} {A : Option Addr} {q : List Int} (hi : nth H i = some (.own 3 ver 1 A q.length c (isV q))) (j : Nat) : RowAt W (subA A c j 1) (isV (q.drop j)) := by
 have hr := h.rowAt' hi
 intro t u ht
 have htl := (List.getElem?_eq_some_iff.1 ht).1
 rw [isV_len, List.length_drop] at htl
 have ht' : (isV q)[j + t]? = some u := by
  unfold isV at ht ⊢
  rw [List.getElem?_map, List.getElem?_drop] at ht
  rw [List.getElem?_map]; exact ht
 obtain ⟨hl, ⟨h1, h2, h3⟩ | ⟨g, b, cur, rfl, hg, h1, h2, h3, h4⟩⟩ := h.ents i _ hi
 ·omega
 ·have hc : c ≠ j := by omega
  have e1 : subA (some ⟨g, b, none⟩) c j 1 = some ⟨g, b + j * 1, none⟩ := by simp [subA, hc, add_lit]
  rw [e1]
  obtain ⟨a, ha, hb, hcell⟩ := hr _ _ ht'
  injection ha with ha; subst ha
  refine ⟨_, rfl, hb, ?_⟩
  rw [add_lit] at hcell ⊢
  rw [show b + j * 1 + t = b + (j + t) by omega]; exact hcell
theorem cycle11 (A : Option Addr) (c : Nat) (n : Int) (l : List Ed) (w : World) (hA : RowAt w A (cellsD l)) :
  CallsV Try.prog 11 [.int .i64 n, .slice A l.length c] w fun v w' => (¬ okG n l ∧ v = .tuple #[.slice none 0 0, .int .i64 2] ∧ Fresh w w') ∨
   (okG n l ∧ ∃ B bc, v = .tuple #[.slice B (cycL l n.toNat).length bc, .int .i64 0] ∧ World.ownsB w' w.heap.size 3 1 (.slice B (cycL l n.toNat).length bc) (cycL l n.toNat).length (isV (cycL l n.toNat)) ∧ Fresh w w') := by
 refine calls_go (keep := K11) (nt := 88) (svs := [.val (.int .i64 n), .val (.slice A l.length c)]) Try.func11 x11 n11 (by simp) (by simp [IsL, Is]) fun R hR => ?_
 (refine Y_go 600 ?_; dsimp only [X11, numF, Nat.reduceAdd, zq9r, zq9q, Y_k, zq4u, zq8p, zq6u, YK, zq8t, zq6q, zq9i, normF, zq6n, Nat.reduceBEq, zq6l, zq6k, zq6m, zq86, zq87, zq9y, t11n23, T11n23, zq9z])
 refine scp_rule (fun _ _ _ h => h) ?_
 (refine Y_go 600 ?_; dsimp only [zq9r, zq9q, Y_k, zq4u, zq8o, zq6n, Nat.reduceBEq, zq6k, YK, zq8t, zq6l, zq9j])
 refine call_rule (vs := [.int .i64 n, .slice A l.length c]) rfl (R := fun W v W' => (¬ okG n l ∧ v = .tuple #[.pointer none, .int .i64 2] ∧ Fresh W W') ∨
   (okG n l ∧ ∃ (gm gg : Nat) (z : List (Int × NHd)), z.map (·.1) = keysR l [] ∧ v = .tuple #[.pointer (some ⟨gg, 0, none⟩), .int .i64 0] ∧ HeapOk ⟨w, w.heap.size, [], 88, []⟩ (grO gm gg n l z ++ famZ (nxU l) z) W')) (fun W hW => (made24 A c n l W (hA.keep hW.fresh')).mono ?_) fun W v W' hW hr => ?_
 ·rintro v W' (h | ⟨h1, gm, gg, z, h2, h3, h4⟩)
  ·exact .inl h
  ·refine .inr ⟨h1, gm, gg, z, h2, h3, ?_⟩
   exact (hW.rebase 90 []).2.heap (by
    have e : fps ([] : List SO) = [] := rfl
    rw [e]; exact h4)
 rcases hr with ⟨h1, rfl, hf⟩ | ⟨h1, gm, gg, z, h2, rfl, h4⟩
 ·refine ⟨.tup [.val (.pointer none), .val (.int .i64 2)], [], by simp [Is, IsL], HExt.refl _, hW.freshK hf, ?_⟩
  dsimp only [zq8t]
  (refine Y_go 600 ?_; dsimp only [Y_k, zq4u, zq8o, zq6n, Nat.reduceBEq, zq6k, YK, zq8t, zq5j, zq2f, nth, zq2e, zq6l, zq9i, normF, zq6m, zq86, zq87, zq9y, t11n22, T11n22, zq9r, zq9q, zq50, zq8p, zq6q, zq04, zq92, zq9b, zq0i, zq9d, zq9s, zq6h, zq8x, YC, t11n0, T11n0, zq6u, zq89, zq9x, zq9p, t11n21, T11n21, zq9j])
  exact ⟨fun _ => ret_rule (vs := [.slice none 0 0, .int .i64 2]) r11 rfl rfl fun W hW => hR _ _ (.inl ⟨h1, rfl, hW.fresh'⟩), fun h => absurd h (by decide)⟩
 ·refine ⟨.tup [.ptr 1 0, .val (.int .i64 0)], grO gm gg n l z ++ famZ (nxU l) z, by simp [Is, IsL, blk_eq, nth, SO.blk], HExt.app [] _, h4, ?_⟩
  obtain ⟨m, rfl⟩ : ∃ m : Nat, (m : Int) = n := ⟨n.toNat, by have := h1.1; omega⟩
  dsimp only [zq8t, List.cons_append, List.nil_append]
  (refine Y_go 600 ?_; dsimp only [Y_k, zq4u, zq8o, zq6n, Nat.reduceBEq, zq6k, YK, zq8t, zq5j, zq2f, nth, zq2e, zq6l, zq9i, normF, zq6m, zq86, zq87, zq8c, zq9y, t11n22, T11n22, zq9r, zq9q, zq50, zq8p, zq6q, zq04, zq92, zq9b, zq0i, zq9d, zq9s, zq6h, zq8x, YC, t11n0, T11n0, zq6u, zq89, zq9x, zq9p, t11n21, T11n21, zq9j])
  refine ⟨fun h => absurd h (by decide), fun _ => ?_⟩
  refine call_rule (vs := [.pointer (some ⟨gg, 0, none⟩)]) rfl (R := fun W v W' => ∃ B bc gs, v = .slice B m bc ∧ HeapOk ⟨w, w.heap.size, [], 88, []⟩ ((grO gm gg m l z ++ famZ (nxU l) z) ++ (.own 38 0 1 B m bc (tabV gs m m) :: tabF 4 gs (bhB l) m m)) W') (fun W hW => behind26c m l gm gg z h2 h1 hW) fun W v W' hW ⟨B, bc, gs, hv, hW'⟩ => ⟨.val (.slice B m bc), _, by rw [hv]; rfl, HExt.app _ _, hW', ?_⟩
  dsimp only [zq8t, List.cons_append]
  refine G.le (E' := ⟨w, w.heap.size, [], 88, []⟩) rfl (s' := { F := [(25, .val (.slice B m bc)), (0, .val (.int .i64 m)), (6, .ptr 1 0)], H := grO gm gg m l z ++ (famZ (nxU l) z ++ (.own 38 0 1 B m bc (tabV gs m m) :: tabF 4 gs (bhB l) m m)) }) (fun a W rep => Rep.few rep 2 (by (simp only [setn, List.nil_append, List.cons_append, leF, leH_nil, leH_cons, leF_nil, lk, scp, scpL, scpO, resF, resH, resO, resV, resVL, nth, Nat.reduceBEq, Nat.reduceLT, decide_true, decide_false, List.length, List.length_cons, List.length_nil, Nat.reduceAdd, Bool.and_self, Bool.and_true, and_true, true_and, numF] <;> try simp))) ?_
  refine G.cut (H1 := [.map gm (kvZ (nxU l) z), .cells gg 67 [.val (.int .i64 m), .mp 0]]) (r := famZ (nxU l) z ++ (.own 38 0 1 B m bc (tabV gs m m) :: tabF 4 gs (bhB l) m m)) rfl (by (simp only [setn, List.nil_append, List.cons_append, leF, leH_nil, leH_cons, leF_nil, lk, scp, scpL, scpO, resF, resH, resO, resV, resVL, nth, Nat.reduceBEq, Nat.reduceLT, decide_true, decide_false, List.length, List.length_cons, List.length_nil, Nat.reduceAdd, Bool.and_self, Bool.and_true, and_true, true_and, numF] <;> try simp)) fun W1 hW1 hov => ?_
  have hlook := look_z h2 hW1 (fun e he => List.mem_append_left _ he) 88 []
  have hT : RowE ⟨W1, W1.heap.size, fps (grO gm gg m l z), 88, []⟩ B (tabV gs m m) := hW1.offO (t := 38) (ver := 0) (sz := 1) (n := m) (c := bc) (by simp) 88 []
  have hrow : ∀ a, a < m → RowE ⟨W1, W1.heap.size, fps (grO gm gg m l z), 88, []⟩ (some ⟨gs a, 0, none⟩) (rwV m (bhB l a)) := fun a ha => hW1.offO (t := 4) (ver := 0) (sz := 1) (n := m) (c := m) (List.mem_append_right _ (List.mem_cons_of_mem _ (tabF_mem ha))) 88 []
  have sB : 0 < m → B.isSome = true := fun h => hT.isSome (j := 0) (by rw [tabV_len]; exact h)
  have hm5 : m ≤ 500 := by have := h1.2.1; omega
  have hfl : ∀ k, (nxU l k).length ≤ 20000 := fun k => Nat.le_trans (nxU_len l k) h1.2.2.1
  (refine Y_go 600 ?_; dsimp only [Y_k, zq4u, zq8o, zq6n, Nat.reduceBEq, zq6k, YK, zq8t, zq9i, normF, zq6l, zq6m, zq86, zq87, zq8c, zq9y, t11n20, T11n20, zq9r, zq9q, zq8p, zq6q, t11n19, T11n19, zq9t, zq9v])
  have tail : ∀ i, i < m → selfN l m = i → G (cxOf Try.prog Try.f11 K11 T11 R) ⟨W1, W1.heap.size, fps (grO gm gg m l z), 88, []⟩ [.code (.loop (.ref 13)), .blk 2, .code (.ref 15)] { F := [(0, .val (.int .i64 m)), (6, .ptr 1 0), (8, .val (.slice B m bc)), (9, .val (.int .i64 i)), (10, .val (.slice none 0 0))], H := [.map gm (kvZ (nxU l) z), .cells gg 67 [.val (.int .i64 m), .mp 0]] } := by
   intro i hi hself
   refine loop_go (α := List Int × Nat × Option Addr × Nat) (fun q => q.1.Nodup ∧ (∀ x ∈ q.1, 0 ≤ x ∧ x < m) ∧ q.2.1 < m ∧ walkC l (m + 1) [] i = walkC l (m + 1 - q.1.length) q.1 q.2.1) (fun _ => ⟨W1, W1.heap.size, fps (grO gm gg m l z), 88, []⟩)
    (fun q => { F := [(0, .val (.int .i64 m)), (6, .ptr 1 0), (8, .val (.slice B m bc)), (9, .val (.int .i64 q.2.1)), (10, .own 2 0)], H := [.map gm (kvZ (nxU l) z), .cells gg 67 [.val (.int .i64 m), .mp 0], .own 3 0 1 q.2.2.1 q.1.length q.2.2.2 (isV q.1)] }) (fun q => m - q.1.length) (fun _ => rfl) ?start ?round
   case start =>
    intro a W rep
    exact ⟨([], i, none, 0), ⟨by simp, by simp, hi, rfl⟩, (rep.adopt 10 3 1 rfl).le (by (simp only [setn, List.nil_append, List.cons_append, leF, leH_nil, leH_cons, leF_nil, lk, scp, scpL, scpO, resF, resH, resO, resV, resVL, nth, Nat.reduceBEq, Nat.reduceLT, decide_true, decide_false, List.length, List.length_cons, List.length_nil, Nat.reduceAdd, Bool.and_self, Bool.and_true, and_true, true_and, numF] <;> try simp)) (by (simp only [setn, List.nil_append, List.cons_append, leF, leH_nil, leH_cons, leF_nil, lk, scp, scpL, scpO, resF, resH, resO, resV, resVL, nth, Nat.reduceBEq, Nat.reduceLT, decide_true, decide_false, List.length, List.length_cons, List.length_nil, Nat.reduceAdd, Bool.and_self, Bool.and_true, and_true, true_and, numF] <;> try simp); rfl)⟩
   case round =>
    rintro ⟨ws, k, C, cc⟩ ⟨hnd, hin, hk, hw⟩ I again
    simp only at hnd hin hk hw ⊢
    have hwl := nodup_le m ws hnd hin
    (refine Y_go 600 ?_; dsimp only [zq9y, t11n13, T11n13, zq9t, zq9r, zq9q, Y_k, zq4u, zq8o, zq6n, Nat.reduceBEq, zq6l, zq6k, YK, zq8t, zq9j])
    refine call_val (R := fun v => v = .int .i64 (idxI ws k)) (vs := [.slice C ws.length cc, .int .i64 k]) rfl (fun W hW => (index27 C cc ws k W (hW.rowAt' (i := 2) rfl) (by omega)).mono fun v w' h => h) fun v hv => ⟨.val (.int .i64 (idxI ws k)), by rw [hv]; rfl, ?_⟩
    dsimp only [zq8t]
    (refine Y_go 600 ?_; dsimp only [Y_k, zq4u, zq8o, zq6n, Nat.reduceBEq, zq6k, YK, zq8t, zq9i, normF, zq6l, zq6m, zq86, zq87, zq8f, zq8c, zq9y, t11n5, T11n5, zq9r, zq9q, zq50, zq8p, zq6q, zq04, zq92, zq9b, zq0i, zq9h, zq9s, zq6h, zq8x, YC, t11n4, T11n4, zq5o, zq3b, zq06, zq38, zq3i, nth, zq09, zq08, zq3c, zq98, zq89, zq9u, popTo, zq6i, YP, t11n15, T11n15, zq9j, zq9p, t11n12, T11n12, zq5h, List.map, repL, List.cons_append, List.nil_append, zq23, Nat.reduceMul, zq7u, zq73, zq0a, dropL, takeL, zq20, splice, setn, zq24, zq26, List.length_cons, List.length_nil, Nat.reduceAdd, zq5l, zq2w, zq2s, zq2r, zq2n, zq2j, zq2k, zq8l, zq8m, zq8k, denL, den, zq2l, zq2h, zq8a, t11n11, T11n11, zq5i, zq29, zq5a, zq14, zq5c, zq1o, zq1k, zq19, zq18, zq61, zq4h, zq00, zq4g, zq4f, zq55])
    refine ⟨fun hge => ?_, fun hno => ?_⟩
    ·have hkm : (k : Int) ∈ ws := by
      by_cases h : (k : Int) ∈ ws
      ·exact h
      ·have := of_decide_eq_true hge
       unfold idxI at this; rw [if_neg h] at this; omega
     have hid : idxI ws k = ((ws.idxOf (k : Int) : Nat) : Int) := by unfold idxI; rw [if_pos hkm]
     have hlt := List.idxOf_lt_length_of_mem hkm
     rw [hid]
     have hcy : cycL l m = rotL (ws.drop (ws.idxOf (k : Int))) := by
      unfold cycL
      rw [hself, if_neg (by omega), hw]
      obtain ⟨f, hf⟩ : ∃ f, m + 1 - ws.length = f + 1 := ⟨m - ws.length, by omega⟩
      rw [hf, walkC, if_pos hkm]
     generalize ws.idxOf (k : Int) = p at hlt hcy
     refine ⟨⟨by omega, by omega⟩, ?_⟩
     obtain ⟨x, r, hxr⟩ : ∃ x r, ws.drop p = x :: r := by
      cases h : ws.drop p with
      | nil => have := congrArg List.length h; rw [List.length_drop] at this; simp at this; omega
      | cons x r => exact ⟨x, r, rfl⟩
     have hxl : ws.length - p = (x :: r).length := by rw [← hxr, List.length_drop]
     have hrl : r.length ≤ 500 := by have : (x :: r).length = r.length + 1 := rfl; omega
     rw [hxr] at hcy
     rw [Int.toNat_natCast]
     refine G.le (E' := ⟨W1, W1.heap.size, fps (grO gm gg m l z), 88, []⟩) rfl (s' := { F := [(76, .own 2 0), (77, .own 2 0), (10, .own 2 0)], H := [.map gm (kvZ (nxU l) z), .cells gg 67 [.val (.int .i64 m), .mp 0], .own 3 0 1 (subA C cc p 1) (x :: r).length (cc - p) (isV (x :: r))] }) (fun a W rep => ?_) ?_
     ·have r1 := ((rep.window 76 (i := 2) (l := p) (ws.length - p) rfl rfl (by omega)).fold 77 (i := 2) rfl rfl).fold 10 (i := 2) rfl rfl
      have e1 : ((isV ws).drop (p * 1)).take ((ws.length - p) * 1) = isV (x :: r) := by
       rw [← hxr, Nat.mul_one, Nat.mul_one]
       have : (isV ws).drop p = isV (ws.drop p) := by unfold isV; rw [List.map_drop]
       rw [this, List.take_of_length_le (by rw [isV_len, List.length_drop]; exact Nat.le_refl _)]
      rw [e1, hxl] at r1
      exact r1.res.le (by (simp only [setn, List.nil_append, List.cons_append, leF, leH_nil, leH_cons, leF_nil, lk, scp, scpL, scpO, resF, resH, resO, resV, resVL, nth, Nat.reduceBEq, Nat.reduceLT, decide_true, decide_false, List.length, List.length_cons, List.length_nil, Nat.reduceAdd, Bool.and_self, Bool.and_true, and_true, true_and, numF] <;> try simp)) (by (simp only [setn, List.nil_append, List.cons_append, leF, leH_nil, leH_cons, leF_nil, lk, scp, scpL, scpO, resF, resH, resO, resV, resVL, nth, Nat.reduceBEq, Nat.reduceLT, decide_true, decide_false, List.length, List.length_cons, List.length_nil, Nat.reduceAdd, Bool.and_self, Bool.and_true, and_true, true_and, numF] <;> try simp))
     ·refine call_val (R := fun v => v = .int .i64 (minI x r)) (vs := [.slice (subA C cc p 1) (x :: r).length (cc - p)]) rfl (fun W hW => (min28 _ _ x r W (hW.rowAt' (i := 2) rfl) (by omega)).mono fun v w' h => h) fun v hv => ⟨.val (.int .i64 (minI x r)), by rw [hv]; rfl, ?_⟩
      dsimp only [List.length_cons, zq8t]
      have hmm := minI_mem r x
      have hidm : idxI (x :: r) (minI x r) = (((x :: r).idxOf (minI x r) : Nat) : Int) := by unfold idxI; rw [if_pos hmm]
      have hlm := List.idxOf_lt_length_of_mem hmm
      refine call_val (R := fun v => v = .int .i64 (((x :: r).idxOf (minI x r) : Nat) : Int)) (vs := [.slice (subA C cc p 1) (x :: r).length (cc - p), .int .i64 (minI x r)]) rfl (fun W hW => (index27 _ _ (x :: r) (minI x r) W (hW.rowAt' (i := 2) rfl) (by omega)).mono fun v w' h => by rw [hidm] at h; exact h) fun v hv => ⟨.val (.int .i64 (((x :: r).idxOf (minI x r) : Nat) : Int)), by rw [hv]; rfl, ?_⟩
      have hcy : cycL l m = (x :: r).drop ((x :: r).idxOf (minI x r)) ++ (x :: r).take ((x :: r).idxOf (minI x r)) := hcy
      generalize (x :: r).idxOf (minI x r) = e at hlm hcy
      dsimp only [zq8t]
      (refine Y_go 600 ?_; dsimp only [Y_k, zq4u, zq8o, zq6n, Nat.reduceBEq, zq6k, YK, zq8t, zq9i, normF, zq6l, zq6m, zq86, zq87, zq8f, zq9y, t11n14, T11n14, zq9r, zq9q, zq5o, zq3b, zq06, zq38, zq3i, nth, zq09, zq08, zq3c, zq98, zq3a, zq39, zq37, zq3d, zq97, Int.reduceToNat, zq5h, List.map, zq6u, repL, List.cons_append, List.nil_append, zq23, Nat.reduceMul, zq7u, zq77, zq0a, dropL, takeL, zq20, splice, setn, zq24, zq26, List.length_cons, List.length_nil, Nat.reduceAdd, zq9j])
      have hll : (x :: r).length = r.length + 1 := rfl
      refine ⟨⟨by omega, by omega⟩, ⟨by omega, by omega, by omega⟩, fun g => ?_⟩
      rw [Int.toNat_natCast]
      generalize subA C cc p 1 = C1
      generalize cc - p = c1
      have hd : ((x :: r).drop e).length = r.length + 1 - e := by rw [List.length_drop]; rfl
      have ht : ((x :: r).take e).length = e := by rw [List.length_take]; omega
      have hL : [Value.slice (subA C1 c1 e 1) (r.length + 1 - e) (c1 - e), Value.slice C1 (e - 0) (c1 - 0)] = [((x :: r).drop e, (⟨subA C1 c1 e 1, c1 - e⟩ : NHd)), ((x :: r).take e, ⟨C1, c1⟩)].map slV := by
       simp only [List.map_cons, List.map_nil, slV, hd, ht, Nat.sub_zero]
      refine G.le (E' := ⟨W1, W1.heap.size, fps (grO gm gg m l z), 88, []⟩) rfl (s' := { F := [(86, .own 3 0)], H := [.map gm (kvZ (nxU l) z), .cells gg 67 [.val (.int .i64 m), .mp 0], .own 3 0 1 C1 (x :: r).length c1 (isV (x :: r)), .own 24 0 1 (some ⟨g, 0, none⟩) 2 2 ([((x :: r).drop e, (⟨subA C1 c1 e 1, c1 - e⟩ : NHd)), ((x :: r).take e, ⟨C1, c1⟩)].map slV)] }) (fun a W rep => ?_) ?_
      ·have r1 := (rep.ownC 86 (i := 3) (n := 2) (sz := 1) (xs := [Value.slice (subA C1 c1 e 1) (r.length + 1 - e) (c1 - e), Value.slice C1 (e - 0) (c1 - 0)]) rfl rfl rfl rfl (by decide)).pick [0, 1, 2, 4] (by decide)
       rw [hL] at r1
       exact r1.le (by (simp only [renF, renV, renVL, renO, pickH, pickE, posOf, setn, List.nil_append, List.cons_append, leF, leH_nil, leH_cons, leF_nil, lk, scp, scpL, scpO, resF, resH, resO, resV, resVL, nth, Nat.reduceBEq, Nat.reduceLT, decide_true, decide_false, List.length, List.length_cons, List.length_nil, Nat.reduceAdd, Bool.and_self, Bool.and_true, and_true, true_and, numF] <;> try simp)) (by (simp only [renF, renV, renVL, renO, pickH, pickE, posOf, setn, List.nil_append, List.cons_append, leF, leH_nil, leH_cons, leF_nil, lk, scp, scpL, scpO, resF, resH, resO, resV, resVL, nth, Nat.reduceBEq, Nat.reduceLT, decide_true, decide_false, List.length, List.length_cons, List.length_nil, Nat.reduceAdd, Bool.and_self, Bool.and_true, and_true, true_and, numF] <;> try simp))
      ·have hsum : sumL [((x :: r).drop e, (⟨subA C1 c1 e 1, c1 - e⟩ : NHd)), ((x :: r).take e, ⟨C1, c1⟩)] = r.length + 1 := by
        simp only [sumL, List.map_cons, List.map_nil, List.sum_cons, List.sum_nil, hd, ht]; omega
       have hcat : catL [((x :: r).drop e, (⟨subA C1 c1 e 1, c1 - e⟩ : NHd)), ((x :: r).take e, ⟨C1, c1⟩)] = cycL l m := by
        rw [hcy]; simp [catL]
       refine call_own (vs := [.slice (some ⟨g, 0, none⟩) 2 2]) rfl (t := 3) (sz := 1) (n := (cycL l m).length) (xs := isV (cycL l m)) (fun W hW => ?_) fun A2 c2 => ?_
       ·have := concat29 (some ⟨g, 0, none⟩) 2 [((x :: r).drop e, (⟨subA C1 c1 e 1, c1 - e⟩ : NHd)), ((x :: r).take e, ⟨C1, c1⟩)] W (hW.rowAt' (i := 3) rfl) (fun q hq => ?_) (by rw [hsum]; omega) (by rw [hsum]; omega) (by simp)
        ·rw [hcat] at this; exact this
        ·simp only [List.mem_cons, List.not_mem_nil, or_false] at hq
         rcases hq with rfl | rfl
         ·exact row_drop hW (i := 2) rfl e
         ·have h5 := hW.rowAt' (i := 2) rfl
          rw [← List.take_append_drop e (x :: r)] at h5
          have e5 : isV ((x :: r).take e ++ (x :: r).drop e) = isV ((x :: r).take e) ++ isV ((x :: r).drop e) := by unfold isV; rw [List.map_append]
          rw [e5] at h5
          exact h5.pre
       ·dsimp only [List.length_cons, List.map, List.length_nil, Nat.reduceAdd, zq8t, List.cons_append, List.nil_append]
        (refine Y_go 600 ?_; dsimp only [Y_k, zq4u, zq8o, zq6n, Nat.reduceBEq, zq6k, YK, zq8t, zq8p, zq6q, zq9i, normF, zq6l, zq6m, zq86, zq87, zq8f, zq9x])
        refine ret_rule (vs := [.slice A2 (cycL l m).length c2, .int .i64 0]) r11 rfl rfl fun W hW => hR _ _ (.inr ⟨h1, A2, c2, ?_⟩)
        rw [Int.toNat_natCast]
        have h9 := hov.heap hW
        exact ⟨rfl, h9.owns (i := 4) rfl, h9.fresh'⟩
    ·have hkn : (k : Int) ∉ ws := by
      intro h
      have := of_decide_eq_false hno
      unfold idxI at this; rw [if_pos h] at this; omega
     have hnd' : (ws ++ [(k : Int)]).Nodup := by
      rw [List.nodup_append]
      refine ⟨hnd, by simp, fun a ha b hb => ?_⟩
      simp only [List.mem_singleton] at hb
      subst hb
      exact fun e => hkn (e ▸ ha)
     have hin' : ∀ x ∈ ws ++ [(k : Int)], 0 ≤ x ∧ x < m := fun x hx => by
      rcases List.mem_append.1 hx with h | h
      ·exact hin x h
      ·simp only [List.mem_singleton] at h; subst h; omega
     have hwl' := nodup_le m _ hnd' hin'
     rw [List.length_append, List.length_singleton] at hwl'
     have hw' : walkC l (m + 1) [] i = walkC l (m + 1 - (ws ++ [(k : Int)]).length) (ws ++ [(k : Int)]) (stepC l k) := by
      rw [hw]
      obtain ⟨f, hf⟩ : ∃ f, m + 1 - ws.length = f + 1 := ⟨m - ws.length, by omega⟩
      rw [hf, walkC, if_neg hkn, List.length_append, List.length_singleton]
      rw [show m + 1 - (ws.length + 1) = f by omega]
     have again' : ∀ D dc a W, Rep ⟨W1, W1.heap.size, fps (grO gm gg m l z), 88, []⟩ { F := [(0, .val (.int .i64 m)), (6, .ptr 1 0), (8, .val (.slice B m bc)), (9, .val (.int .i64 (stepC l k))), (10, .own 2 0)], H := [.map gm (kvZ (nxU l) z), .cells gg 67 [.val (.int .i64 m), .mp 0], .own 3 0 1 D (ws ++ [(k : Int)]).length dc (isV (ws ++ [(k : Int)]))] } a W → I a W := fun D dc a W rep =>
      again (ws ++ [(k : Int)], stepC l k, D, dc) ⟨hnd', hin', stepC_lt h1 hk, hw'⟩ (by simp only [List.length_append, List.length_singleton]; omega) a W rep
     obtain ⟨A3, c3, hA3, hR3⟩ := hlook k
     refine fun g => ⟨⟨by simp only [maxLen]; omega, by omega⟩, fun D dc => ⟨kvZ_keys _ _, _, rfl, .val (.slice A3 (nxU l k).length c3), by rw [hA3]; rfl, ?_⟩⟩
     dsimp only [zq0r, YK, zq8t, Y_k, zq4u, zq8p, zq6q, zq9i, normF, zq6n, Nat.reduceBEq, zq6l, zq6k, zq6m, zq86, zq87, zq8a, zq8f, zq8c, zq9t, zq9v]
     (refine Y_go 600 ?_; dsimp only [zq9v])
     have hlk := hfl k
     have s3 : 0 < (nxU l k).length → A3.isSome = true := fun h => hR3.isSome (j := 0) (by rw [isV_len]; exact h)
     have e9 : isV (ws ++ [(k : Int)]) = isV ws ++ [.int .i64 k] := by simp [isV]
     refine loop_go (α := Nat) (fun j => j ≤ (nxU l k).length ∧ ∀ x ∈ (nxU l k).take j, bhB l x.toNat k = false) (fun _ => ⟨W1, W1.heap.size, fps (grO gm gg m l z), 88, []⟩)
      (fun j => { F := [(0, .val (.int .i64 m)), (6, .ptr 1 0), (8, .val (.slice B m bc)), (9, .val (.int .i64 k)), (10, .own 2 0), (61, .val (.slice A3 (nxU l k).length c3)), (62, .val (.int .i64 (nxU l k).length)), (63, .val (.int .i64 j))], H := [.map gm (kvZ (nxU l) z), .cells gg 67 [.val (.int .i64 m), .mp 0], .own 3 0 1 D (ws.length + 1) dc (isV (ws ++ [(k : Int)]))] }) (fun j => (nxU l k).length - j) (fun _ => rfl) ?start2 ?round2
     case start2 =>
      intro a W rep
      refine ⟨0, ⟨Nat.zero_le _, by simp⟩, ?_⟩
      simp only [e9]
      exact rep.res.le (by (simp only [setn, List.nil_append, List.cons_append, leF, leH_nil, leH_cons, leF_nil, lk, scp, scpL, scpO, resF, resH, resO, resV, resVL, nth, Nat.reduceBEq, Nat.reduceLT, decide_true, decide_false, List.length, List.length_cons, List.length_nil, Nat.reduceAdd, Bool.and_self, Bool.and_true, and_true, true_and, numF] <;> try simp)) (by (simp only [setn, List.nil_append, List.cons_append, leF, leH_nil, leH_cons, leF_nil, lk, scp, scpL, scpO, resF, resH, resO, resV, resVL, nth, Nat.reduceBEq, Nat.reduceLT, decide_true, decide_false, List.length, List.length_cons, List.length_nil, Nat.reduceAdd, Bool.and_self, Bool.and_true, and_true, true_and, numF] <;> try simp))
     case round2 =>
      rintro j ⟨hj, hn2⟩ I2 again2
      (refine Y_go 600 ?_; dsimp only [zq9y, t11n10, T11n10, zq9r, zq9q, Y_k, zq50, zq8o, zq6n, Nat.reduceBEq, zq6l, zq6k, zq04, zq92, zq9b, zq0i, zq9e, YK, zq8t, zq9i, normF, zq6m, zq86, zq87, zq8f, zq8c, t11n9, T11n9, zq9s, zq6h, zq8x, YC, zq9p, t11n8, T11n8, zq9t, zq58, zq06, zq0w, zq5c, zq1p, zq1c, List.nil_append, zq1b, zq18, zq4u, zq89, t11n7, T11n7, zq1g, zq1d, t11n6, T11n6, zq9u, popTo, zq6i, YP, zqa2, zqa1, zq4w, zq8p, zq6q, zq0e, zq8a])
      refine ⟨fun hlt => ?_, fun hge => ?_⟩
      ·have hlt : j < (nxU l k).length := by have := of_decide_eq_true hlt; omega
       have hg := List.getElem?_eq_getElem hlt
       have hmem := List.getElem_mem hlt
       generalize (nxU l k)[j] = to at hg hmem
       have hto := h1.2.2.2 _ ((nxU_mem l k to).1 hmem)
       simp only at hto
       obtain ⟨t, rfl⟩ : ∃ t : Nat, (t : Int) = to := ⟨to.toNat, by omega⟩
       have htm : t < m := by omega
       refine ⟨⟨by omega, by omega, s3 (by omega)⟩, (t : Int), by rw [Int.toNat_natCast, Nat.mul_one]; exact hR3.cell (isV_get _ _ _ hg), ⟨by omega, by omega, sB (by omega)⟩, some ⟨gs t, 0, none⟩, m, m, by rw [Int.toNat_natCast, Nat.mul_one]; exact hT.cell (tabV_get htm), ⟨by omega, by omega, rfl⟩, bhB l t k, by rw [Int.toNat_natCast, Nat.mul_one]; exact (hrow t htm).cell (rwV_get _ hk), fun hb => ?_, fun hb => ?_⟩
       ·have hst : stepC l k = t := by
         have := stepC_at hg (by rw [Int.toNat_natCast]; exact hb) hn2
         rw [Int.toNat_natCast] at this; exact this
        refine lend_rule fun a W rep => again' D dc a W ?_
        rw [hst]
        simp only [List.length_append, List.length_singleton]
        exact rep.le (by (simp only [setn, List.nil_append, List.cons_append, leF, leH_nil, leH_cons, leF_nil, lk, scp, scpL, scpO, resF, resH, resO, resV, resVL, nth, Nat.reduceBEq, Nat.reduceLT, decide_true, decide_false, List.length, List.length_cons, List.length_nil, Nat.reduceAdd, Bool.and_self, Bool.and_true, and_true, true_and, numF] <;> try simp)) (by (simp only [setn, List.nil_append, List.cons_append, leF, leH_nil, leH_cons, leF_nil, lk, scp, scpL, scpO, resF, resH, resO, resV, resVL, nth, Nat.reduceBEq, Nat.reduceLT, decide_true, decide_false, List.length, List.length_cons, List.length_nil, Nat.reduceAdd, Bool.and_self, Bool.and_true, and_true, true_and, numF] <;> try simp))
       ·refine ⟨((j + 1 : Nat) : Int), ArOk.to (by omega) (by omega) (by omega), lend_rule fun a W rep => again2 (j + 1) ⟨hlt, fun x hx => ?_⟩ (by omega) a W (rep.le (by (simp only [setn, List.nil_append, List.cons_append, leF, leH_nil, leH_cons, leF_nil, lk, scp, scpL, scpO, resF, resH, resO, resV, resVL, nth, Nat.reduceBEq, Nat.reduceLT, decide_true, decide_false, List.length, List.length_cons, List.length_nil, Nat.reduceAdd, Bool.and_self, Bool.and_true, and_true, true_and, numF] <;> try simp)) (by (simp only [setn, List.nil_append, List.cons_append, leF, leH_nil, leH_cons, leF_nil, lk, scp, scpL, scpO, resF, resH, resO, resV, resVL, nth, Nat.reduceBEq, Nat.reduceLT, decide_true, decide_false, List.length, List.length_cons, List.length_nil, Nat.reduceAdd, Bool.and_self, Bool.and_true, and_true, true_and, numF] <;> try simp)))⟩
        rw [List.take_add_one, hg] at hx
        rcases List.mem_append.1 hx with h | h
        ·exact hn2 x h
        ·simp only [Option.toList_some, List.mem_singleton] at h
         subst h; rw [Int.toNat_natCast]; exact hb
      ·have hie : j = (nxU l k).length := by have := of_decide_eq_false hge; omega
       subst hie
       rw [List.take_of_length_le (Nat.le_refl _)] at hn2
       have hst := stepC_none hn2
       refine lend_rule fun a W rep => again' D dc a W ?_
       rw [hst]
       simp only [List.length_append, List.length_singleton]
       exact rep.le (by (simp only [setn, List.nil_append, List.cons_append, leF, leH_nil, leH_cons, leF_nil, lk, scp, scpL, scpO, resF, resH, resO, resV, resVL, nth, Nat.reduceBEq, Nat.reduceLT, decide_true, decide_false, List.length, List.length_cons, List.length_nil, Nat.reduceAdd, Bool.and_self, Bool.and_true, and_true, true_and, numF] <;> try simp)) (by (simp only [setn, List.nil_append, List.cons_append, leF, leH_nil, leH_cons, leF_nil, lk, scp, scpL, scpO, resF, resH, resO, resV, resVL, nth, Nat.reduceBEq, Nat.reduceLT, decide_true, decide_false, List.length, List.length_cons, List.length_nil, Nat.reduceAdd, Bool.and_self, Bool.and_true, and_true, true_and, numF] <;> try simp))
  refine loop_go (α := Nat) (fun i => i ≤ m ∧ ∀ j, j < i → bhB l j j = false) (fun _ => ⟨W1, W1.heap.size, fps (grO gm gg m l z), 88, []⟩)
   (fun i => { F := [(0, .val (.int .i64 m)), (6, .ptr 1 0), (8, .val (.slice B m bc)), (9, .val (.int .i64 i))], H := [.map gm (kvZ (nxU l) z), .cells gg 67 [.val (.int .i64 m), .mp 0]] }) (fun i => m - i) (fun _ => rfl) ?start ?round
  case start =>
   intro a W rep
   exact ⟨0, ⟨Nat.zero_le _, fun j hj => absurd hj (by omega)⟩, rep.le (by (simp only [setn, List.nil_append, List.cons_append, leF, leH_nil, leH_cons, leF_nil, lk, scp, scpL, scpO, resF, resH, resO, resV, resVL, nth, Nat.reduceBEq, Nat.reduceLT, decide_true, decide_false, List.length, List.length_cons, List.length_nil, Nat.reduceAdd, Bool.and_self, Bool.and_true, and_true, true_and, numF] <;> try simp)) (by (simp only [setn, List.nil_append, List.cons_append, leF, leH_nil, leH_cons, leF_nil, lk, scp, scpL, scpO, resF, resH, resO, resV, resVL, nth, Nat.reduceBEq, Nat.reduceLT, decide_true, decide_false, List.length, List.length_cons, List.length_nil, Nat.reduceAdd, Bool.and_self, Bool.and_true, and_true, true_and, numF] <;> try simp))⟩
  case round =>
   rintro i ⟨hi, hno⟩ I again
   (refine Y_go 600 ?_; dsimp only [zq9y, t11n2, T11n2, zq9r, zq9q, Y_k, zq4u, zq8o, zq6n, Nat.reduceBEq, zq6l, zq6k, YK, zq8t, zq50, zq04, zq92, zq9b, zq0i, zq9e, Y_gk, zq6d, YR, zq69, zq58, zq06, zq0w, zq5c, zq1p, zq1g, List.nil_append, zq1b, zq18, zq1d, zq53, zq0o, zq4v, zq8p, zq6p, zq0b, zq9i, normF, zq6m, zq86, zq87, zq8c, zq9s, zq6h, zq8x, YC, zq9p, t11n1, T11n1, zq9t, zq4w, zq6q, zq0e, zq89, zqa1, zqa2, zq9u, popTo, zq6i, YP, t11n18, T11n18, zq9c, zq8a, t11n3, T11n3, zq6u, zq9x, t11n17, T11n17, zqa0, t11n16, T11n16, zq9v, YS, zq6b, zq0c, zq6g])
   refine ⟨fun hlt => ?_, fun hge => ?_⟩
   ·have hlt : i < m := by have := of_decide_eq_true hlt; omega
    refine ⟨⟨by omega, by omega, sB (by omega)⟩, some ⟨gs i, 0, none⟩, m, m, by rw [Int.toNat_natCast, Nat.mul_one]; exact hT.cell (tabV_get hlt), ⟨by omega, by omega, rfl⟩, bhB l i i, by rw [Int.toNat_natCast, Nat.mul_one]; exact (hrow i hlt).cell (rwV_get _ hlt), fun hb => ?_, fun hb => ?_⟩
    ·have hb : bhB l i i = false := by simpa using hb
     refine ⟨((i + 1 : Nat) : Int), ArOk.to (by omega) (by omega) (by omega), lend_rule fun a W rep => again (i + 1) ⟨hlt, fun j hj => ?_⟩ (by omega) a W (rep.le (by (simp only [setn, List.nil_append, List.cons_append, leF, leH_nil, leH_cons, leF_nil, lk, scp, scpL, scpO, resF, resH, resO, resV, resVL, nth, Nat.reduceBEq, Nat.reduceLT, decide_true, decide_false, List.length, List.length_cons, List.length_nil, Nat.reduceAdd, Bool.and_self, Bool.and_true, and_true, true_and, numF] <;> try simp)) (by (simp only [setn, List.nil_append, List.cons_append, leF, leH_nil, leH_cons, leF_nil, lk, scp, scpL, scpO, resF, resH, resO, resV, resVL, nth, Nat.reduceBEq, Nat.reduceLT, decide_true, decide_false, List.length, List.length_cons, List.length_nil, Nat.reduceAdd, Bool.and_self, Bool.and_true, and_true, true_and, numF] <;> try simp)))⟩
     rcases Nat.lt_or_ge j i with h | h
     ·exact hno j h
     ·have : j = i := by omega
      subst this; exact hb
    ·have hb : bhB l i i = true := by simpa using hb
     refine ⟨fun h => absurd (show (i : Int) = m by simpa using h) (by omega), fun _ => ?_⟩
     exact G.le rfl (fun a W rep => rep.few 2 (by (simp only [setn, List.nil_append, List.cons_append, leF, leH_nil, leH_cons, leF_nil, lk, scp, scpL, scpO, resF, resH, resO, resV, resVL, nth, Nat.reduceBEq, Nat.reduceLT, decide_true, decide_false, List.length, List.length_cons, List.length_nil, Nat.reduceAdd, Bool.and_self, Bool.and_true, and_true, true_and, numF] <;> try simp))) (tail i hlt (findIdx_range hlt hno hb))
   ·have hie : i = m := by have := of_decide_eq_false hge; omega
    subst hie
    refine ⟨fun _ => ?_, fun h => absurd h (by simp)⟩
    have hs : selfN l i = i := findIdx_none hno
    refine ret_rule (vs := [.slice none 0 0, .int .i64 0]) r11 rfl rfl fun W hW => hR _ _ (.inr ⟨h1, none, 0, ?_⟩)
    have hc : cycL l i = [] := by unfold cycL; rw [if_pos hs]
    rw [Int.toNat_natCast, hc]
    have hf : Fresh w W := by
     have := hov.heap hW
     exact this.fresh'
    exact ⟨rfl, ownsB_nil _ _ _ _, hf⟩
end Go.Proofs.Ytbkpiljencaoeaa
