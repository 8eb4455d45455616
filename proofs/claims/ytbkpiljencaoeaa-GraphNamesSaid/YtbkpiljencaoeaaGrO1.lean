/- graph.Order. -/
import Derived.Test.YtbkpiljencaoeaaGrC1
import Derived.Test.YtbkpiljencaoeaaGrOrd
import Derived.Test.YtbkpiljencaoeaaSxLib
import Derived.Test.YtbkpiljencaoeaaSxGhost
import Derived.Test.YtbkpiljencaoeaaGrCode
set_option linter.unusedSimpArgs false
set_option linter.unusedVariables false
set_option linter.unnecessarySimpa false
namespace Go.Proofs.Ytbkpiljencaoeaa
open Go Go.Sx Go.Gr
set_option maxRecDepth 100000
theorem heapJoin {E : Env} {H H2 H2' : List SO} {W W' : World} {nt : Nat} {mk : List Nat} (h : HeapOk E H W) (k : HeapOk ⟨W, W.heap.size, [], nt, mk⟩ H2 W') (hfp : H2'.map SO.fp = H2.map SO.fp) (he : ∀ e ∈ H2', EntryOk (H ++ H2') (fun g => W'.heap[g]?) e) : HeapOk E (H ++ H2') W' := by
 have old1 : ∀ j, E.old j → Env.old ⟨W, W.heap.size, [], nt, mk⟩ j := fun j hj => ⟨Nat.lt_of_lt_of_le hj.1 h.floor, by simp⟩
 have fr2 : ∀ e ∈ H2', ∀ g, e.fp = some g → W.heap.size ≤ g ∧ g < W'.heap.size := fun e hm g hg => by
  have : some g ∈ H2.map SO.fp := by rw [← hfp, ← hg]; exact List.mem_map_of_mem hm
  obtain ⟨e2, h2, h3⟩ := List.mem_map.1 this
  obtain ⟨h4, h5⟩ := k.fr h2 h3
  refine ⟨Nat.le_of_not_lt fun hl => h5 ⟨hl, by simp⟩, h4⟩
 refine HeapOk.mk' (h.keep.trans (k.keep.mono old1)) (Nat.le_trans h.floor k.floor) (fun e hm => ?_) (fun e hm g hg => ?_) ?_
 ·rcases List.mem_append.1 hm with h1 | h1
  ·exact (h.ent h1).mono (HExt.app _ _) fun g hg => k.keep.block g ⟨(h.fr h1 hg).1, by simp⟩
  ·exact he e h1
 ·rcases List.mem_append.1 hm with h1 | h1
  ·exact ⟨Nat.lt_of_lt_of_le (h.fr h1 hg).1 k.floor, (h.fr h1 hg).2⟩
  ·obtain ⟨h2, h3⟩ := fr2 e h1 g hg
   exact ⟨h3, fun ho => absurd (Nat.lt_of_lt_of_le ho.1 h.floor) (by omega)⟩
 ·rw [List.pairwise_append]
  refine ⟨h.apart, ?_, fun e he' e2 he2 g hg hg2 => ?_⟩
  ·have h1 : (H2.map SO.fp).Pairwise fun x y => ∀ g, x = some g → y ≠ some g := List.pairwise_map.2 k.apart
   rw [← hfp, List.pairwise_map] at h1
   exact h1
  ·have h1 := (h.fr he' hg).1
   have h2 := (fr2 e2 he2 g hg2).1
   omega
theorem free25 (A : Option Addr) (w : World) :
  CallsV Try.prog 25 [.pointer A] w fun v w' => ∃ gb, v = .func (.func 46) #[] #[.pointer (some ⟨gb, 0, none⟩)] ∧ HeapOk ⟨w, w.heap.size, [], 4, []⟩ [.cells gb 57 [.val (.pointer A)]] w' := by
 refine calls_go (keep := K25) (nt := 4) (svs := [.val (.pointer A)]) Try.func25 x25 n25 (by simp) (by simp [IsL, Is]) fun R hR => ?_
 (refine Y_go 600 ?_; dsimp only [X25, numF, Nat.reduceAdd, zq9r, zq9q, Y_k, zq5f, zq8o, zq6n, Nat.reduceBEq, zq6k, zq7u, zq76, zq0a, zq1z, List.length_nil, List.nil_append, YK, zq8t, zq4u, zq8p, zq6y, zq9i, normF, zq6l, zq87, zq8c, zq9y, t25n0, T25n0, zq5k, evL, zq8j, zq9x])
 intro gb
 exact ret_rule (vs := [.func (.func 46) #[] #[.pointer (some ⟨gb, 0, none⟩)]]) r25 rfl rfl fun W hW => hR _ _ ⟨gb, rfl, hW⟩
def cV (n : Nat) (f : Nat → Int) : List Value := isV ((List.range n).map f)
theorem cV_len (n : Nat) (f : Nat → Int) : (cV n f).length = n := by simp [cV, isV]
theorem cV_get {n k : Nat} (f : Nat → Int) (h : k < n) : (cV n f)[k]? = some (.int .i64 (f k)) := by
 unfold cV; refine isV_get _ _ _ ?_
 rw [List.getElem?_map, List.getElem?_range h]; rfl
theorem cV_congr {n : Nat} {f g : Nat → Int} (h : ∀ k, k < n → f k = g k) : cV n f = cV n g := by
 unfold cV
 rw [List.map_congr_left fun k hk => h k (List.mem_range.1 hk)]
theorem cV_set {n k : Nat} (f : Nat → Int) (v : Int) (h : k < n) : setn (cV n f) k (.int .i64 v) = cV n (fun j => if j = k then v else f j) := by
 rw [setn_eq]
 apply List.ext_getElem?
 intro j
 by_cases hj : j < n
 ·rw [List.getElem?_set, cV_get (fun j => if j = k then v else f j) hj]
  by_cases e : k = j
  ·subst e; rw [if_pos rfl, if_pos (by rw [cV_len]; exact h)]; simp
  ·rw [if_neg e, cV_get _ hj]
   have : ¬ j = k := fun h => e h.symm
   simp [this]
 ·rw [List.getElem?_eq_none (by rw [List.length_set, cV_len]; omega), List.getElem?_eq_none (by rw [cV_len]; omega)]
theorem cV_zero (n : Nat) : repN n [.int .i64 0] = cV n fun _ => 0 := by
 apply List.ext_getElem?
 intro j
 by_cases hj : j < n
 ·rw [repN_get n [.int .i64 0] j (by simpa using hj), cV_get _ hj]
  simp [Nat.mod_one]
 ·rw [List.getElem?_eq_none (by rw [repN_length]; simp; omega), List.getElem?_eq_none (by rw [cV_len]; omega)]
def OrdR (w : World) (n : Int) (l : List Ed) (v : Value) (w' : World) : Prop :=
 ((¬ okG n l ∧ v = .tuple #[.slice none 0 0, .int .i64 2]) ∨ (okG n l ∧ (ordL l n.toNat).length < n.toNat ∧ v = .tuple #[.slice none 0 0, .int .i64 250]) ∨
  (okG n l ∧ ¬ (ordL l n.toNat).length < n.toNat ∧ ∃ B bc, v = .tuple #[.slice B (ordL l n.toNat).length bc, .int .i64 0] ∧ World.ownsB w' w.heap.size 3 1 (.slice B (ordL l n.toNat).length bc) (ordL l n.toNat).length (isV (ordL l n.toNat)))) ∧ Fresh w w'
theorem order10 (A : Option Addr) (c : Nat) (n : Int) (l : List Ed) (w : World) (hA : RowAt w A (cellsD l)) :
  CallsV Try.prog 10 [.int .i64 n, .slice A l.length c] w fun v w' => OrdR w n l v w' := by
 refine calls_goM (keep := K10) (nt := 31) (svs := [.val (.int .i64 n), .val (.slice A l.length c)]) Try.func10 x10 n10 (by simp) (by simp [IsL, Is]) fun R hR => ?_
 (refine Y_goM 600 ?_; dsimp only [X10, numF, Nat.reduceAdd, zq9r, zq9q, Y_k, zq4u, zq8p, zq6u, YK, zq8t, zq6q, zq9i, normF, zq6n, Nat.reduceBEq, zq6l, zq6k, zq6m, zq86, zq87, zq9y, t10n9, T10n9, zq8o, zq9j])
 refine call_rule (vs := [.int .i64 n, .slice A l.length c]) rfl (R := fun W v W' => (¬ okG n l ∧ v = .tuple #[.pointer none, .int .i64 2] ∧ Fresh W W') ∨
   (okG n l ∧ ∃ (gm gg : Nat) (z : List (Int × NHd)), z.map (·.1) = keysR l [] ∧ v = .tuple #[.pointer (some ⟨gg, 0, none⟩), .int .i64 0] ∧ HeapOk ⟨w, w.heap.size, [], 31, []⟩ (grO gm gg n l z ++ famZ (nxU l) z) W')) (fun W hW => (made24 A c n l W (hA.keep hW.fresh')).mono ?_) fun W v W' hW hr => ?_
 ·rintro v W' (h | ⟨h1, gm, gg, z, h2, h3, h4⟩)
  ·exact .inl h
  ·refine .inr ⟨h1, gm, gg, z, h2, h3, ?_⟩
   exact (hW.rebase 90 []).2.heap (by
    have e : fps ([] : List SO) = [] := rfl
    rw [e]; exact h4)
 rcases hr with ⟨h1, rfl, hf⟩ | ⟨h1, gm, gg, z, h2, rfl, h4⟩
 ·refine ⟨.tup [.val (.pointer none), .val (.int .i64 2)], [], by simp [Is, IsL], HExt.refl _, hW.freshK hf, ?_⟩
  dsimp only [zq8t]
  (refine Y_goM 600 ?_; dsimp only [Y_k, zq4u, zq8o, zq6n, Nat.reduceBEq, zq6k, YK, zq8t, zq5j, zq2f, nth, zq2e, zq6l, zq9i, normF, zq6m, zq86, zq87, zq9y, t10n8, T10n8, zq9r, zq9q, zq50, zq8p, zq6q, zq04, zq92, zq9b, zq0i, zq9d, zq9s, zq6h, zq8x, YC, t10n0, T10n0, zq6u, zq89, zq9x, zq9p, t10n7, T10n7, zq5e, List.length_nil, List.map, List.nil_append, zq8a, zq8c, t10n6, T10n6, zq9j])
  exact ⟨fun _ => ret_none (vs := [.slice none 0 0, .int .i64 2]) r10 rfl rfl fun W hW => hR _ _ ⟨.inl ⟨h1, rfl⟩, hW.fresh'⟩, fun h => absurd h (by decide)⟩
 ·refine ⟨.tup [.ptr 1 0, .val (.int .i64 0)], grO gm gg n l z ++ famZ (nxU l) z, by simp [Is, IsL, blk_eq, nth, SO.blk], HExt.app [] _, h4, ?_⟩
  obtain ⟨m, rfl⟩ : ∃ m : Nat, (m : Int) = n := ⟨n.toNat, by have := h1.1; omega⟩
  dsimp only [zq8t, List.cons_append, List.nil_append]
  refine G.le (E' := ⟨w, w.heap.size, [], 31, []⟩) rfl (s' := { F := [(13, .tup [.ptr 1 0, .val (.int .i64 0)]), (0, .val (.int .i64 m))], H := [.map gm (kvZ (nxU l) z), .cells gg 67 [.val (.int .i64 m), .mp 0]] ++ famZ (nxU l) z }) (fun a W rep => Rep.few rep 2 (by (simp only [setn, List.nil_append, List.cons_append, leF, leH_nil, leH_cons, leF_nil, lk, scp, scpL, scpO, resF, resH, resO, resV, resVL, nth, Nat.reduceBEq, Nat.reduceLT, decide_true, decide_false, List.length, List.length_cons, List.length_nil, Nat.reduceAdd, Bool.and_self, Bool.and_true, and_true, true_and, numF] <;> try simp))) ?_
  refine G.cut rfl (by (simp only [setn, List.nil_append, List.cons_append, leF, leH_nil, leH_cons, leF_nil, lk, scp, scpL, scpO, resF, resH, resO, resV, resVL, nth, Nat.reduceBEq, Nat.reduceLT, decide_true, decide_false, List.length, List.length_cons, List.length_nil, Nat.reduceAdd, Bool.and_self, Bool.and_true, and_true, true_and, numF] <;> try simp)) fun W1 hW1 hov => ?_
  have hlook := look_z h2 hW1 (fun e he => he) 31 []
  have hm5 : m ≤ 500 := by have := h1.2.1; omega
  have hfl : ∀ k, (nxU l k).length ≤ 20000 := fun k => Nat.le_trans (nxU_len l k) h1.2.2.1
  generalize hst : fps [SO.map gm (kvZ (nxU l) z), .cells gg 67 [.val (.int .i64 m), .mp 0]] = st at hov hlook ⊢
  (refine Y_goM 600 ?_; dsimp only [Y_k, zq4u, zq8o, zq6n, Nat.reduceBEq, zq6k, YK, zq8t, zq5j, zq2f, nth, zq2e, zq6l, zq9i, normF, zq6m, zq86, zq87, zq8c, zq9y, t10n8, T10n8, zq9r, zq9q, zq50, zq8p, zq6q, zq04, zq92, zq9b, zq0i, zq9d, zq9s, zq6h, zq8x, YC, t10n0, T10n0, zq6u, zq89, zq9x, zq9p, t10n7, T10n7, zq5e, List.length_cons, List.length_nil, Nat.reduceAdd, List.map, List.cons_append, List.nil_append, zq8a, t10n6, T10n6, zq9j])
  refine ⟨fun h => absurd h (by decide), fun _ g8 => ?_⟩
  refine call_rule (vs := [.pointer (some ⟨gg, 0, none⟩)]) rfl (R := fun W v W' => ∃ gb, v = .func (.func 46) #[] #[.pointer (some ⟨gb, 0, none⟩)] ∧ HeapOk ⟨W, W.heap.size, [], 4, []⟩ [.cells gb 57 [.val (.pointer (some ⟨gg, 0, none⟩))]] W') (fun W hW => free25 _ W) fun W v W2 hW ⟨gb, hv, hh⟩ => ?_
  refine ⟨.fn (.func 46) [] [.ptr 3 0], [.map gm (kvZ (nxU l) z), .cells gg 67 [.val (.int .i64 m), .mp 0], .cells g8 24 [.val (.slice none 0 0)], .cells gb 57 [.ptr 1 0]], ?_, ?_, ?_, ?_⟩
  ·rw [hv]; simp [Is, IsL, blk, nth]
  ·exact HExt.push _ _
  ·refine heapJoin (H2' := [.cells gb 57 [.ptr 1 0]]) hW hh rfl fun e he => ?_
   simp only [List.mem_singleton] at he
   subst he
   obtain ⟨c, hc, hl⟩ := hh.ent (e := .cells gb 57 [.val (.pointer (some ⟨gg, 0, none⟩))]) (by simp)
   refine ⟨c, hc, ?_⟩
   simp only [IsL, Is, blk, nth] at hl ⊢
   obtain ⟨v, r, rfl, rfl, e⟩ := hl
   exact ⟨_, _, ⟨gg, rfl, rfl⟩, rfl, e⟩
  clear hh hv hW
  (refine Y_goM 600 ?_; dsimp only [zq8t, zq9i, normF, zq6n, Nat.reduceBEq, zq6l, zq6k, zq6m, zq86, zq8j, zq8a, zq8c, zq87, zq9y, t10n2, T10n2, zq9t, zq9w])
  have ok46 : fnOk Try.prog 46 = true := by kernel_rfl
  refine rng_rule rfl rfl (gf := 46) (caps := [.pointer (some ⟨gb, 0, none⟩)]) rfl ok46 ?_
  intro D lo rec hrec R' hend hjump W3 hW3
  refine calls_in (keep := K46) (nt := 69) (E := ⟨W1, W1.heap.size, st, 31, []⟩) (svs := [.val (.func (.yield lo) #[] #[]), .ptr 3 0]) Try.func46 x46 n46 (by simp) hW3 (by simp [IsL, Is, blk, nth]) ?_
  (refine Y_go 9 ?_; dsimp only [X46, numF, Nat.reduceAdd, List.cons_append, List.nil_append, zq9r, zq9q, Y_k, zq5c, zq8o, zq6n, Nat.reduceBEq, zq6l, zq6k, zq1o, nth, zq1k, List.length_cons, List.length_nil, dropL, takeL, zq19, zq18, YK, zq8t, zq5i, zq29, zq5a, zq14, Nat.add_zero, zq67, zq06, zq4t, zq4u, zq9i, normF, zq6m, zq86, zq8f, zq8c, zq87, Y_0])
  refine ⟨⟨by omega, by omega, by omega, by omega⟩, fun g => ?_⟩
  rw [Int.toNat_natCast, cV_zero]
  have hnd : (z.map (·.1)).Nodup := by rw [h2]; exact keysR_nodup _ _ (by simp)
  refine G.openM 0 rfl fun es ck hkv ok0 => ?_
  have hkb : es.toList.length = z.length := by
   have := congrArg List.length hkv
   unfold kvE kvZ at this
   simpa using this
  (refine Y_go 8 ?_; dsimp only [setn, zq9y, t46n16, T46n16, zq9r, zq9q, Y_k, zq5c, zq8o, zq6n, Nat.reduceBEq, zq6l, zq6k, zq1o, nth, zq1k, List.length_cons, List.length_nil, Nat.reduceAdd, dropL, takeL, zq19, zq18, YK, zq8t, zq5i, zq29, zq5a, zq14, Y_0])
  refine rngM_rule (i := 0) rfl rfl fun r => ?_
  dsimp only [List.length_cons, List.length_nil, Nat.reduceAdd, zq8t, List.cons_append, List.nil_append]
  (refine Y_go 600 ?_; dsimp only [zq9i, normF, zq6n, Nat.reduceBEq, zq6l, zq6k, zq6m, zq86, zq8c, zq8f, zq87, zq9t, zq9v])
  have hlk69 : ∀ k, ∃ A c, (mget (kvZ (nxU l) z) (.int .i64 k)).getD (.slice none 0 0) = .slice A (nxU l k).length c ∧ RowE ⟨W1, W1.heap.size, st, 69, []⟩ A (isV (nxU l k)) := fun k => by
   obtain ⟨A, c, h5, h6⟩ := hlook k
   exact ⟨A, c, h5, h6.env rfl rfl rfl⟩
  have tail : G (cxOf Try.prog Try.f46 K46 T46 R') ⟨W1, W1.heap.size, st, 69, []⟩ [.code (.loop (.ref 15)), .blk 4] { F := [(0, .val (.func (.yield lo) #[] #[])), (1, .ptr 3 0), (3, .own 6 0)], H := [.map gm (kvZ (nxU l) z), .cells gg 67 [.val (.int .i64 m), .mp 0], .cells g8 24 [.val (.slice none 0 0)], .cells gb 57 [.ptr 1 0], .obj D (.deferred (some [])), .obj lo (.loop rec), .own 3 0 1 (some ⟨g, 0, none⟩) m m (cV m (ahU l []))] } := by
   refine loop_go (α := List Int × Option Addr × Nat) (fun q => UInv l m q.1 ∧ grd l m (m + 1) [] = grd l m (m + 1 - q.1.length) q.1) (fun _ => ⟨W1, W1.heap.size, st, 69, []⟩)
    (fun q => { F := [(0, .val (.func (.yield lo) #[] #[])), (1, .ptr 3 0), (3, .own 6 0)], H := [.map gm (kvZ (nxU l) z), .cells gg 67 [.val (.int .i64 m), .mp 0], .cells g8 24 [.own 7 0], .cells gb 57 [.ptr 1 0], .obj D (.deferred (some [])), .obj lo (.loop rec), .own 3 0 1 (some ⟨g, 0, none⟩) m m (cV m (ahU l q.1)), .own 3 0 1 q.2.1 q.1.length q.2.2 (isV q.1)] }) (fun q => m - q.1.length) (fun _ => rfl) ?start ?round
   case start =>
    intro a W rep
    exact ⟨([], none, 0), ⟨UInv.nil l m, rfl⟩, (rep.adoptC 2 3 1 rfl).le (by (simp only [setn, List.nil_append, List.cons_append, leF, leH_nil, leH_cons, leF_nil, lk, scp, scpL, scpO, resF, resH, resO, resV, resVL, nth, Nat.reduceBEq, Nat.reduceLT, decide_true, decide_false, List.length, List.length_cons, List.length_nil, Nat.reduceAdd, Bool.and_self, Bool.and_true, and_true, true_and, numF] <;> try simp)) (by (simp only [setn, List.nil_append, List.cons_append, leF, leH_nil, leH_cons, leF_nil, lk, scp, scpL, scpO, resF, resH, resO, resV, resVL, nth, Nat.reduceBEq, Nat.reduceLT, decide_true, decide_false, List.length, List.length_cons, List.length_nil, Nat.reduceAdd, Bool.and_self, Bool.and_true, and_true, true_and, numF] <;> try simp); rfl)⟩
   case round =>
    rintro ⟨u, B, bc⟩ ⟨hu, hg⟩ I again
    simp only at hu hg ⊢
    have hul := hu.len
    (refine Y_go 600 ?_; dsimp only [zq9y, t46n15, T46n15, zq9t, zq9r, zq9q, Y_k, zq4u, zq8o, zq6n, Nat.reduceBEq, zq6l, zq6k, YK, zq8t, zq9j])
    refine call_val (R := fun v => v = .int .i64 (if pickN l m u < m then ((pickN l m u : Nat) : Int) else -1)) (vs := [.slice (some ⟨g, 0, none⟩) m m, .int .i64 0]) rfl (fun W hW => ?_) fun v hv => ⟨.val (.int .i64 (if pickN l m u < m then ((pickN l m u : Nat) : Int) else -1)), by rw [hv]; rfl, ?_⟩
    ·have := index27 (some ⟨g, 0, none⟩) m ((List.range m).map (ahU l u)) 0 W (hW.rowAt' (i := 6) rfl) (by simp; omega)
     rw [idxOf_map] at this
     simp only [List.length_map, List.length_range] at this
     exact this
    have hps : pickN l m u = (List.range m).findIdx fun i => ahU l u i == 0 := rfl
    have hsp := findIdx_spec (p := fun i => ahU l u i == 0) (n := m)
    rw [← hps] at hsp
    have hgrd : ∀ f, m + 1 - u.length = f + 1 → grd l m (m + 1 - u.length) u = if pickN l m u < m then grd l m f (u ++ [(pickN l m u : Int)]) else u := fun f hf => by rw [hf]; rfl
    obtain ⟨f, hf⟩ : ∃ f, m + 1 - u.length = f + 1 := ⟨m - u.length, by omega⟩
    replace hgrd := hgrd f hf
    rw [← hg] at hgrd
    generalize pickN l m u = p at hsp hgrd ⊢
    by_cases hp : p < m
    ·rw [if_pos hp] at hgrd ⊢
     dsimp only [zq8t]
     (refine Y_go 600 ?_; dsimp only [Y_k, zq4u, zq8o, zq6n, Nat.reduceBEq, zq6k, YK, zq8t, zq9i, normF, zq6l, zq6m, zq86, zq87, zq8f, zq8c, zq9y, t46n14, T46n14, zq9r, zq9q, zq50, zq8p, zq6q, zq04, zq92, zq9b, zq0i, zq9e, Y_gk, zq6e, YS, zq6a, zq9o, zq4v, zq6o, zq0b, zq89, zq9s, zq6f, YC, zq9x, YR, zq6c, YG])
     refine ⟨fun h => absurd (of_decide_eq_true h) (by omega), fun _ => ?_⟩
     obtain ⟨hp0, hpz⟩ : p < m ∧ ahU l u p = 0 := by
      rcases hsp with ⟨_, h⟩ | ⟨h1, h2, _⟩
      ·omega
      ·exact ⟨h1, by simpa using h2⟩
     have hu2 := hu.snoc hp hpz
     have hul2 := hu2.len
     rw [List.length_append, List.length_singleton] at hul2
     refine yield_rule (C' := cxOf Try.prog Try.f46 K46 T46 R') (E := ⟨W1, W1.heap.size, st, 31, []⟩) (i := 5) (rec := rec) (lno := lo) (keep := K10) ?_ ?_ ?_ hrec ?_ ?_ ?_ ?_ ?_ ?_
     ·rfl
     ·rfl
     ·rfl
     ·simp
     ·rfl
     ·rfl
     ·rfl
     ·exact extB_spec (by simp [extB, SO.blk, bump])
     intro J Q' hQ' hbeg hnorm hjmp
     have hF : NoPanic (fun _ _ _ => False) := fun _ _ _ h => h
     (refine Y_round hF 600 ?_; dsimp only [evL, zq8o, zq6n, Nat.reduceBEq, zq6k, setPs, zq9q, Y_k, zq4u, YK, zq8t, zq9i, normF, zq6l, zq6m, zq86, zq87, zq8j, zq8a, zq8c, zqa2])
     refine lend_rule fun a W rep => hbeg _ _ rfl ?_ a W rep
     (refine Y_round hQ' 600 ?_; dsimp only [setn, zq9y, t10n1, T10n1, zq9t, zq9q, Y_k, zq5c, zq8o, zq6n, Nat.reduceBEq, zq6l, zq6k, zq1o, nth, zq1k, List.length_cons, List.length_nil, Nat.reduceAdd, dropL, takeL, zq19, zq18, YK, zq8t, zq4u, zq5h, List.map, zq6q, repL, List.cons_append, List.nil_append, zq23, Nat.reduceMul, zq7u, zq73, zq0a, zq20, splice, zq24, zq26, zq5l, zq2w, zq09, zq08, zq2s, zq9b, zq2r, zq2n, zq2j, zq2k, zq8l, zq8m, zq8k, denL, den, zq2l, zq2h, zq5d, zq81, zq7n, zq1x, zq1t, zq1r, zq8s, zq9i, normF, zq6m, zq86, zq87, zq8j, zq8a, zq8c, zqa1, zqa3])
     refine fun g1 => ⟨⟨by simp only [maxLen]; omega, by omega⟩, fun B2 bc2 => ?_⟩
     refine stop_rule fun a W rep => hnorm _ rfl (extB_spec (by simp [extB, SO.blk, bump])) ?_ _ a W rep
     (refine Y_go 600 ?_; dsimp only [zq8t, setn, Y_gk, zq6n, Nat.reduceBEq, zq6l, zq6k, zq6c, YR, zq53, zq8o, zq0m, YK, Y_k, zq4v, zq8p, zq6o, zq0c, zq9i, normF, zq6m, zq86, zq8a, zq87, zq8f, zq8c, zq9s, zq6g, YC, zq9p, zq9y, t46n13, T46n13, zq9r, zq9q, zq4u, zq58, zq06, zq0y, nth, zq09, zq08, zq0v, zq5d, zq6q, zq7u, zq73, zq0a, zq1y, zq1w, denL, den, zq1v, splice, zq8s, t46n12, T46n12, zq5c, zq1o, zq1k, List.length_cons, List.length_nil, Nat.reduceAdd, dropL, takeL, zq19, zq18, zq5i, zq29, zq5a, zq14, zq61, zq4h, zq00, zq92, zq4g, zq4f, zq55])
     obtain ⟨A3, c3, hA3, hR3⟩ := hlk69 p
     refine ⟨⟨by omega, by omega⟩, by rw [cV_len, Int.toNat_natCast]; omega, kvZ_keys _ _, _, rfl, .val (.slice A3 (nxU l p).length c3), by rw [hA3]; rfl, ?_⟩
     rw [Int.toNat_natCast, Nat.mul_one, cV_set _ _ hp0]
     dsimp only [zq0r, YK, zq8t, Y_k, zq4u, zq8p, zq6q, zq9i, normF, zq6n, Nat.reduceBEq, zq6l, zq6k, zq6m, zq86, zq87, zq8a, zq8f, zq8c, zq9t, zq9v]
     (refine Y_go 600 ?_; dsimp only [zq9v])
     have hlk := hfl p
     have hnn := nxU_nodup l p
     have s3 : 0 < (nxU l p).length → A3.isSome = true := fun h => hR3.isSome (j := 0) (by rw [isV_len]; exact h)
     have hsn := ahU_snoc hu hpz
     have hpp : (p : Int) ∉ nxU l p := fun hm => (ahU_zero.1 hpz).1 ((ahU_zero.1 hpz).2 _ ((nxU_mem l p p).1 hm))
     have hbnd := fun i => ahU_le h1 u i
     have eu : isV (u ++ [(p : Int)]) = isV u ++ [.int .i64 p] := by simp [isV]
     have elen : (u ++ [(p : Int)]).length = u.length + 1 := by simp
     refine loop_go (α := Nat) (fun j => j ≤ (nxU l p).length) (fun _ => ⟨W1, W1.heap.size, st, 69, []⟩)
      (fun j => { F := [(0, .val (.func (.yield lo) #[] #[])), (1, .ptr 3 0), (3, .own 6 0), (56, .val (.slice A3 (nxU l p).length c3)), (57, .val (.int .i64 (nxU l p).length)), (58, .val (.int .i64 j))], H := [.map gm (kvZ (nxU l) z), .cells gg 67 [.val (.int .i64 m), .mp 0], .cells g8 24 [.own 7 0], .cells gb 57 [.ptr 1 0], .obj D (.deferred (some [])), .obj lo (.loop rec), .own 3 0 1 (some ⟨g, 0, none⟩) m m (cV m fun i => (if i = p then -1 else ahU l u i) - (if (i : Int) ∈ (nxU l p).take j then 1 else 0)), .own 3 0 1 B2 (u.length + 1) bc2 (isV (u ++ [(p : Int)]))] }) (fun j => (nxU l p).length - j) (fun _ => rfl) ?start2 ?round2
     case start2 =>
      intro a W rep
      refine ⟨0, Nat.zero_le _, ?_⟩
      have e0 : (cV m fun i => (if i = p then -1 else ahU l u i) - (if (i : Int) ∈ (nxU l p).take 0 then 1 else 0)) = cV m fun j => if j = p then -1 else ahU l u j := cV_congr fun i _ => by simp
      simp only [e0, eu]
      exact rep.res.le (by (simp only [setn, List.nil_append, List.cons_append, leF, leH_nil, leH_cons, leF_nil, lk, scp, scpL, scpO, resF, resH, resO, resV, resVL, nth, Nat.reduceBEq, Nat.reduceLT, decide_true, decide_false, List.length, List.length_cons, List.length_nil, Nat.reduceAdd, Bool.and_self, Bool.and_true, and_true, true_and, numF] <;> try simp)) (by (simp only [setn, List.nil_append, List.cons_append, leF, leH_nil, leH_cons, leF_nil, lk, scp, scpL, scpO, resF, resH, resO, resV, resVL, nth, Nat.reduceBEq, Nat.reduceLT, decide_true, decide_false, List.length, List.length_cons, List.length_nil, Nat.reduceAdd, Bool.and_self, Bool.and_true, and_true, true_and, numF] <;> try simp))
     case round2 =>
      rintro j hj I2 again2
      (refine Y_go 600 ?_; dsimp only [zq9y, t46n11, T46n11, zq9r, zq9q, Y_k, zq50, zq8o, zq6n, Nat.reduceBEq, zq6l, zq6k, zq04, zq92, zq9b, zq0i, zq9e, YK, zq8t, zq9i, normF, zq6m, zq87, zq86, zq8f, zq8c, t46n10, T46n10, zq9s, zq6h, zq8x, YC, zq9p, t46n9, T46n9, zq9t, zq58, zq06, zq0w, zq5c, zq1p, zq1c, List.nil_append, zq1b, zq18, zq4u, zq89, t46n8, T46n8, zq0y, nth, zq09, zq08, zq0v, zq1q, zq1n, zq4w, zq8p, zq6q, zq0e, zq5d, zq7u, zq73, zq0a, zq1y, zq1w, denL, den, zq1v, splice, setn, zq8s, zqa1, zqa2, zq9u, popTo, zq6i, YP])
      refine ⟨fun hlt => ?_, fun hge => ?_⟩
      ·have hlt : j < (nxU l p).length := by have := of_decide_eq_true hlt; omega
       have hgt := List.getElem?_eq_getElem hlt
       have hmem := List.getElem_mem hlt
       generalize (nxU l p)[j] = to at hgt hmem
       have hto := h1.2.2.2 _ ((nxU_mem l p to).1 hmem)
       simp only at hto
       obtain ⟨t, rfl⟩ : ∃ t : Nat, (t : Int) = to := ⟨to.toNat, by omega⟩
       have htm : t < m := by omega
       have hnt := take_not hnn hgt
       have hb := hbnd t
       have htp : ¬ t = p := fun e => hpp (e ▸ hmem)
       refine ⟨⟨by omega, by omega, s3 (by omega)⟩, (t : Int), by rw [Int.toNat_natCast, Nat.mul_one]; exact hR3.cell (isV_get _ _ _ hgt), ⟨by omega, by omega⟩, ahU l u t, by rw [Int.toNat_natCast, Nat.mul_one, cV_get _ htm, if_neg hnt, if_neg htp, Int.sub_zero], ahU l u t - 1, ArOk.toSub (by omega) (by omega) (by omega), ⟨by omega, by omega⟩, by rw [cV_len, Int.toNat_natCast]; omega, ((j + 1 : Nat) : Int), ArOk.to (by omega) (by omega) (by omega), lend_rule fun a W rep => again2 (j + 1) hlt (by omega) a W ?_⟩
       rw [Int.toNat_natCast, Nat.mul_one, cV_set _ _ htm] at rep
       have e1 : (cV m fun i => if i = t then ahU l u t - 1 else (if i = p then -1 else ahU l u i) - (if (i : Int) ∈ (nxU l p).take j then 1 else 0)) = cV m fun i => (if i = p then -1 else ahU l u i) - (if (i : Int) ∈ (nxU l p).take (j + 1) then 1 else 0) := cV_congr fun i _ => by
        by_cases hit : i = t
        ·subst hit
         rw [if_pos rfl, if_neg htp, if_pos ((take_mem hnn hgt _).2 (.inr rfl))]
        ·have hne : (i : Int) ≠ t := by omega
         rw [if_neg hit]
         congr 1
         simp only [take_mem hnn hgt, hne, or_false]
       rw [e1] at rep
       exact rep.res.le (by (simp only [setn, List.nil_append, List.cons_append, leF, leH_nil, leH_cons, leF_nil, lk, scp, scpL, scpO, resF, resH, resO, resV, resVL, nth, Nat.reduceBEq, Nat.reduceLT, decide_true, decide_false, List.length, List.length_cons, List.length_nil, Nat.reduceAdd, Bool.and_self, Bool.and_true, and_true, true_and, numF] <;> try simp)) (by (simp only [setn, List.nil_append, List.cons_append, leF, leH_nil, leH_cons, leF_nil, lk, scp, scpL, scpO, resF, resH, resO, resV, resVL, nth, Nat.reduceBEq, Nat.reduceLT, decide_true, decide_false, List.length, List.length_cons, List.length_nil, Nat.reduceAdd, Bool.and_self, Bool.and_true, and_true, true_and, numF] <;> try simp))
      ·have hie : j = (nxU l p).length := by have := of_decide_eq_false hge; omega
       subst hie
       rw [List.take_of_length_le (Nat.le_refl _)]
       refine lend_rule fun a W rep => again (u ++ [(p : Int)], B2, bc2) ⟨hu2, ?_⟩ (by simp only [elen]; omega) a W ?_
       ·rw [hgrd, elen]
        rw [show m + 1 - (u.length + 1) = f by omega]
       have e1 : (cV m fun i => (if i = p then -1 else ahU l u i) - (if (i : Int) ∈ nxU l p then 1 else 0)) = cV m (ahU l (u ++ [(p : Int)])) := cV_congr fun i _ => by
        rw [hsn i]
        by_cases hip : i = p
        ·subst hip; rw [if_pos rfl, if_pos rfl, if_neg hpp]; rfl
        ·rw [if_neg hip, if_neg hip]
       rw [e1] at rep
       simp only [elen]
       exact rep.le (by (simp only [setn, List.nil_append, List.cons_append, leF, leH_nil, leH_cons, leF_nil, lk, scp, scpL, scpO, resF, resH, resO, resV, resVL, nth, Nat.reduceBEq, Nat.reduceLT, decide_true, decide_false, List.length, List.length_cons, List.length_nil, Nat.reduceAdd, Bool.and_self, Bool.and_true, and_true, true_and, numF] <;> try simp)) (by (simp only [setn, List.nil_append, List.cons_append, leF, leH_nil, leH_cons, leF_nil, lk, scp, scpL, scpO, resF, resH, resO, resV, resVL, nth, Nat.reduceBEq, Nat.reduceLT, decide_true, decide_false, List.length, List.length_cons, List.length_nil, Nat.reduceAdd, Bool.and_self, Bool.and_true, and_true, true_and, numF] <;> try simp))
    ·rw [if_neg hp] at hgrd ⊢
     dsimp only [zq8t]
     (refine Y_go 600 ?_; dsimp only [Y_k, zq4u, zq8o, zq6n, Nat.reduceBEq, zq6k, YK, zq8t, zq9i, normF, zq6l, zq6m, zq86, zq87, zq8f, zq8c, zq9y, t46n14, T46n14, zq9r, zq9q, zq50, zq8p, zq6q, zq04, zq92, zq9b, zq0i, zq9e, Y_gk, zq6e, YS, zq6a, zq9o, zq4v, zq6o, zq0b, zq89, zq9s, zq6f, YC, zq9x, YR, zq6c, YG])
     refine ⟨fun _ => ?_, fun h => absurd h (by decide)⟩
     refine ret_rule (vs := []) r46 rfl rfl fun W hW => ?_
     refine hend _ _ W ?_ (extB_spec ?_) (HeapOk.env (E := ⟨W1, W1.heap.size, st, 69, []⟩) (E' := ⟨W1, W1.heap.size, st, 31, []⟩) rfl rfl rfl hW) ?_
     ·rfl
     ·simp [extB, SO.blk, bump]
     ·(refine Y_goM 600 ?_; dsimp only [List.length_cons, List.length_nil, Nat.reduceAdd, setn, zqa1, zq9y, t10n5, T10n5, zq9r, zq9q, Y_k, zq5c, zq8o, zq6n, Nat.reduceBEq, zq6l, zq6k, zq1o, nth, zq1k, dropL, takeL, zq19, zq18, YK, zq8t, zq55, zq0t, zq09, zq08, zq0q, zq4u, zq50, zq04, zq92, zq9b, zq0i, zq9e, zq9i, normF, zq6m, zq87, zq86, zq8j, zq8a, zq8c, zq9s, zq6h, zq8x, YC, t10n3, T10n3, zq8p, zq6u, zq6q, zq89, zq9x, zq9p, t10n4, T10n4, zq8f])
      have hord : ordL l ((m : Int)).toNat = u := by rw [Int.toNat_natCast]; exact hgrd
      have hfr : ∀ {H : List SO} {W : World}, HeapOk ⟨W1, W1.heap.size, st, 31, [D]⟩ H W → HeapOk ⟨w, w.heap.size, [], 31, []⟩ H W := fun hh => hov.heap (HeapOk.env (E := ⟨W1, W1.heap.size, st, 31, [D]⟩) (E' := ⟨W1, W1.heap.size, st, 31, []⟩) rfl rfl rfl hh)
      refine ⟨fun hlt => ?_, fun hge => ?_⟩
      ·refine ret_mark (vs := [.slice none 0 0, .int .i64 250]) 4 r10 rfl rfl rfl fun W hW => hR _ _ ⟨.inr (.inl ⟨h1, ?_, rfl⟩), (hfr hW).fresh'⟩
       rw [hord]
       have := of_decide_eq_true hlt; omega
      ·refine ret_mark (vs := [.slice B u.length bc, .int .i64 0]) 4 r10 rfl rfl rfl fun W hW => hR _ _ ⟨.inr (.inr ⟨h1, ?_, B, bc, ?_, ?_⟩), (hfr hW).fresh'⟩
       ·rw [hord]
        have := of_decide_eq_false hge; omega
       ·rw [hord]; rfl
       ·rw [hord]; exact (hfr hW).owns (i := 7) rfl
  refine loop_go (α := Array Nat) (fun _ => True) (fun _ => ⟨W1, W1.heap.size, st, 69, []⟩)
   (fun seen => { F := [(0, .val (.func (.yield lo) #[] #[])), (1, .ptr 3 0), (3, .own 6 0), (20, .ptr 7 0)], H := [.obj gm (.map es ck), .cells gg 67 [.val (.int .i64 m), .mp 0], .cells g8 24 [.val (.slice none 0 0)], .cells gb 57 [.ptr 1 0], .obj D (.deferred (some [])), .obj lo (.loop rec), .own 3 0 1 (some ⟨g, 0, none⟩) m m (cV m (ahD l (doneB ((z.map (·.1)).zip (es.toList.map (·.born))) seen))), .obj r (.mapIter (some gm) ck seen ck)] }) (fun seen => leftB (es.toList.map (·.born)) seen) (fun _ => rfl) ?start ?round
  case start =>
   intro a W rep
   refine ⟨#[], trivial, ?_⟩
   have e0 : cV m (ahD l (doneB ((z.map (·.1)).zip (es.toList.map (·.born))) #[])) = cV m fun _ => 0 := cV_congr fun i _ => by
    unfold ahD
    rw [cnt_none fun k => doneB_nil _ k]; rfl
   simp only [e0]
   exact rep.le (by (simp only [setn, List.nil_append, List.cons_append, leF, leH_nil, leH_cons, leF_nil, lk, scp, scpL, scpO, resF, resH, resO, resV, resVL, nth, Nat.reduceBEq, Nat.reduceLT, decide_true, decide_false, List.length, List.length_cons, List.length_nil, Nat.reduceAdd, Bool.and_self, Bool.and_true, and_true, true_and, numF] <;> try simp)) (by (simp only [setn, List.nil_append, List.cons_append, leF, leH_nil, leH_cons, leF_nil, lk, scp, scpL, scpO, resF, resH, resO, resV, resVL, nth, Nat.reduceBEq, Nat.reduceLT, decide_true, decide_false, List.length, List.length_cons, List.length_nil, Nat.reduceAdd, Bool.and_self, Bool.and_true, and_true, true_and, numF] <;> try simp))
  case round =>
   rintro seen _ I again
   (refine Y_go 3 ?_; dsimp only [zq9y, t46n7, T46n7, zq9r, zq9q, Y_0])
   refine nxtM_rule (i := 0) (j := 7) rfl rfl rfl ok0.lt (Nat.le_refl _) (fun hall => ?_) fun e he hse _ => ?_
   ·dsimp only [zq8t]
    (refine Y_go 600 ?_; dsimp only [Y_k, zq5j, zq8o, zq6n, Nat.reduceBEq, zq6k, zq2f, nth, zq2e, YK, zq8t, zq9i, normF, zq6l, zq6m, zq86, zq8a, zq8c, zq8f, zq87, zq9y, t46n6, T46n6, zq9r, zq9s, zq6g, YC, zq9u, popTo, zq6i, YP, zq9t, zq9v])
    have hfin : cV m (ahD l (doneB ((z.map (·.1)).zip (es.toList.map (·.born))) seen)) = cV m (ahU l []) := cV_congr fun i _ => by
     refine ahU_nil l _ (fun k hk => doneB_all (fun q hq => ?_) ?_) i
     ·obtain ⟨e, he, heq⟩ := List.mem_map.1 (List.of_mem_zip hq).2
      rw [← heq]; exact hall e he
     ·rw [List.map_fst_zip (by rw [List.length_map, List.length_map]; omega), h2]; exact hk
    rw [hfin]
    refine G.le rfl (fun a W rep => ?_) tail
    have r1 := rep.shutM 0 rfl ok0
    rw [hkv] at r1
    exact r1.le (by (simp only [setn, List.nil_append, List.cons_append, leF, leH_nil, leH_cons, leF_nil, lk, scp, scpL, scpO, resF, resH, resO, resV, resVL, nth, Nat.reduceBEq, Nat.reduceLT, decide_true, decide_false, List.length, List.length_cons, List.length_nil, Nat.reduceAdd, Bool.and_self, Bool.and_true, and_true, true_and, numF] <;> try simp)) (by (simp only [setn, List.nil_append, List.cons_append, leF, leH_nil, leH_cons, leF_nil, lk, scp, scpL, scpO, resF, resH, resO, resV, resVL, nth, Nat.reduceBEq, Nat.reduceLT, decide_true, decide_false, List.length, List.length_cons, List.length_nil, Nat.reduceAdd, Bool.and_self, Bool.and_true, and_true, true_and, numF] <;> try simp))
   ·obtain ⟨j, hj⟩ := List.getElem?_of_mem he
    have hjk : (kvE es)[j]? = some (e.key, e.val) := by unfold kvE; rw [List.getElem?_map, hj]; rfl
    have hjb : (es.toList.map (·.born))[j]? = some e.born := by rw [List.getElem?_map, hj]; rfl
    obtain ⟨k, d, hjz, hek, hev⟩ : ∃ k d, z[j]? = some (k, d) ∧ e.key = .int .i64 k ∧ e.val = .slice d.A (nxU l k).length d.c := by
     rw [hkv] at hjk
     unfold kvZ at hjk
     rw [List.getElem?_map] at hjk
     cases hq : z[j]? with
     | none => rw [hq] at hjk; cases hjk
     | some p => rw [hq] at hjk; simp only [Option.map_some, Option.some.injEq, Prod.mk.injEq] at hjk; exact ⟨p.1, p.2, rfl, hjk.1.symm, hjk.2.symm⟩
    dsimp only [zq8t, setn]
    (refine Y_go 10 ?_; dsimp only [Y_k, zq5j, zq8o, zq6n, Nat.reduceBEq, zq6k, zq2f, nth, zq2e, YK, zq8t, zq9i, normF, zq6l, zq6m, zq86, zq89, zq8c, zq8f, zq87, zq9y, t46n6, T46n6, zq9r, zq9s, zq6f, YC, zq9p, t46n5, T46n5, zq9t, zq9q, Y_0])
    refine entM_rule (e := e) (i := 0) (j := 7) rfl rfl rfl he ok0.nd ?_
    rw [hek, hev]
    dsimp only [zq8t]
    (refine Y_go 600 ?_; dsimp only [Y_k, zq5j, zq8o, zq6n, Nat.reduceBEq, zq6k, zq2f, nth, zq2e, YK, zq8t, zq4u, zq9i, normF, zq6l, zq6m, zq86, zq89, zq8c, zq87, zq8f, zq9y, t46n4, T46n4, zq9r, zq9q, zq55, zq0r, zq8p, zq6q, zq9t, zq9v])
    have hmg := mget_some (nxU l) hnd hjz
    obtain ⟨A3, c3, hA3, hR3⟩ := hlk69 k
    rw [hmg] at hA3
    have hA3 : d.A = A3 := by injection hA3
    rw [hA3]
    have hlk := hfl k
    have hnn := nxU_nodup l k
    have s3 : 0 < (nxU l k).length → A3.isSome = true := fun h => hR3.isSome (j := 0) (by rw [isV_len]; exact h)
    have hkz : (k, e.born) ∈ (z.map (·.1)).zip (es.toList.map (·.born)) := by
     refine List.mem_of_getElem? (i := j) ?_
     rw [List.getElem?_zip_eq_some]
     exact ⟨by rw [List.getElem?_map, hjz]; rfl, hjb⟩
    have hkk : k ∈ keysR l [] := by rw [← h2]; exact List.mem_map.2 ⟨_, List.mem_of_getElem? hjz, rfl⟩
    have hd0 := doneB_not (by rw [List.map_fst_zip (by rw [List.length_map, List.length_map]; omega)]; exact hnd) hkz hse
    have hd1 := doneB_push_same (seen := seen) hkz
    have hpb : ∀ p ∈ (z.map (·.1)).zip (es.toList.map (·.born)), ∀ q ∈ (z.map (·.1)).zip (es.toList.map (·.born)), p.2 = q.2 → p = q := by
     intro p hp q hq e
     obtain ⟨a, ha⟩ := List.getElem?_of_mem hp
     obtain ⟨b, hb'⟩ := List.getElem?_of_mem hq
     obtain ⟨p1, p2⟩ := p
     obtain ⟨q1, q2⟩ := q
     rw [List.getElem?_zip_eq_some] at ha hb'
     simp only at e ha hb'
     have hab : a = b := (List.getElem?_inj (List.getElem?_eq_some_iff.1 ha.2).1 ok0.nd).1 (by rw [ha.2, hb'.2, e])
     subst hab
     have := ha.1.symm.trans hb'.1
     simp only [Option.some.injEq] at this
     rw [this, e]
    have hda := ahD_add (d := doneB ((z.map (·.1)).zip (es.toList.map (·.born))) seen) (d' := doneB ((z.map (·.1)).zip (es.toList.map (·.born))) (seen.push e.born)) hkk hd0 hd1 (fun x hx => doneB_push hpb hkz hx)
    have hbnd := fun i => ahD_le h1 (doneB ((z.map (·.1)).zip (es.toList.map (·.born))) seen) i
    have hlft := leftB_lt hse (List.mem_of_getElem? hjb)
    replace again := again (seen.push e.born) trivial hlft
    generalize doneB ((z.map (·.1)).zip (es.toList.map (·.born))) (seen.push e.born) = d1 at hda again
    generalize doneB ((z.map (·.1)).zip (es.toList.map (·.born))) seen = d0 at hda hbnd ⊢
    refine loop_go (α := Nat) (fun j => j ≤ (nxU l k).length) (fun _ => ⟨W1, W1.heap.size, st, 69, []⟩)
     (fun j => { F := [(0, .val (.func (.yield lo) #[] #[])), (1, .ptr 3 0), (3, .own 6 0), (20, .ptr 7 0), (25, .val (.slice A3 (nxU l k).length d.c)), (26, .val (.int .i64 (nxU l k).length)), (27, .val (.int .i64 j))], H := [.obj gm (.map es ck), .cells gg 67 [.val (.int .i64 m), .mp 0], .cells g8 24 [.val (.slice none 0 0)], .cells gb 57 [.ptr 1 0], .obj D (.deferred (some [])), .obj lo (.loop rec), .own 3 0 1 (some ⟨g, 0, none⟩) m m (cV m fun i => ahD l d0 i + (if (i : Int) ∈ (nxU l k).take j then 1 else 0)), .obj r (.mapIter (some gm) ck (seen.push e.born) ck)] }) (fun j => (nxU l k).length - j) (fun _ => rfl) ?start2 ?round2
    case start2 =>
     intro a W rep
     refine ⟨0, Nat.zero_le _, ?_⟩
     have e0 : (cV m fun i => ahD l d0 i + (if (i : Int) ∈ (nxU l k).take 0 then 1 else 0)) = cV m (ahD l d0) := cV_congr fun i _ => by simp
     simp only [e0]
     exact rep.le (by (simp only [setn, List.nil_append, List.cons_append, leF, leH_nil, leH_cons, leF_nil, lk, scp, scpL, scpO, resF, resH, resO, resV, resVL, nth, Nat.reduceBEq, Nat.reduceLT, decide_true, decide_false, List.length, List.length_cons, List.length_nil, Nat.reduceAdd, Bool.and_self, Bool.and_true, and_true, true_and, numF] <;> try simp)) (by (simp only [setn, List.nil_append, List.cons_append, leF, leH_nil, leH_cons, leF_nil, lk, scp, scpL, scpO, resF, resH, resO, resV, resVL, nth, Nat.reduceBEq, Nat.reduceLT, decide_true, decide_false, List.length, List.length_cons, List.length_nil, Nat.reduceAdd, Bool.and_self, Bool.and_true, and_true, true_and, numF] <;> try simp))
    case round2 =>
     rintro j hj I2 again2
     (refine Y_go 600 ?_; dsimp only [zq9y, t46n3, T46n3, zq9r, zq9q, Y_k, zq50, zq8o, zq6n, Nat.reduceBEq, zq6l, zq6k, zq04, zq92, zq9b, zq0i, zq9e, YK, zq8t, zq9i, normF, zq6m, zq86, zq87, zq8c, zq8f, t46n2, T46n2, zq9s, zq6h, zq8x, YC, zq9p, t46n1, T46n1, zq9t, zq58, zq06, zq0w, zq5c, zq1p, zq1c, List.nil_append, zq1b, zq18, zq4u, zq89, t46n0, T46n0, zq0y, nth, zq09, zq08, zq0v, zq1q, zq1n, zq4w, zq8p, zq6q, zq0e, zq5d, zq7u, zq73, zq0a, zq1y, zq1w, denL, den, zq1v, splice, setn, zq8s, zqa1, zqa2, zq9u, popTo, zq6i, YP])
     refine ⟨fun hlt => ?_, fun hge => ?_⟩
     ·have hlt : j < (nxU l k).length := by have := of_decide_eq_true hlt; omega
      have hgt := List.getElem?_eq_getElem hlt
      have hmem := List.getElem_mem hlt
      generalize (nxU l k)[j] = to at hgt hmem
      have hto := h1.2.2.2 _ ((nxU_mem l k to).1 hmem)
      simp only at hto
      obtain ⟨t, rfl⟩ : ∃ t : Nat, (t : Int) = to := ⟨to.toNat, by omega⟩
      have htm : t < m := by omega
      have hnt := take_not hnn hgt
      have hb := hbnd t
      refine ⟨⟨by omega, by omega, s3 (by omega)⟩, (t : Int), by rw [Int.toNat_natCast, Nat.mul_one]; exact hR3.cell (isV_get _ _ _ hgt), ⟨by omega, by omega⟩, ahD l d0 t, by rw [Int.toNat_natCast, Nat.mul_one, cV_get _ htm, if_neg hnt, Int.add_zero], ahD l d0 t + 1, ArOk.add64 (by omega) (by omega), ⟨by omega, by omega⟩, by rw [cV_len, Int.toNat_natCast]; omega, ((j + 1 : Nat) : Int), ArOk.to (by omega) (by omega) (by omega), lend_rule fun a W rep => again2 (j + 1) hlt (by omega) a W ?_⟩
      rw [Int.toNat_natCast, Nat.mul_one, cV_set _ _ htm] at rep
      have e1 : (cV m fun i => if i = t then ahD l d0 t + 1 else ahD l d0 i + (if (i : Int) ∈ (nxU l k).take j then 1 else 0)) = cV m fun i => ahD l d0 i + (if (i : Int) ∈ (nxU l k).take (j + 1) then 1 else 0) := cV_congr fun i _ => by
       by_cases hit : i = t
       ·subst hit
        rw [if_pos rfl, if_pos ((take_mem hnn hgt _).2 (.inr rfl))]
       ·have hne : (i : Int) ≠ t := by omega
        rw [if_neg hit]
        congr 1
        simp only [take_mem hnn hgt, hne, or_false]
      rw [e1] at rep
      exact rep.res.le (by (simp only [setn, List.nil_append, List.cons_append, leF, leH_nil, leH_cons, leF_nil, lk, scp, scpL, scpO, resF, resH, resO, resV, resVL, nth, Nat.reduceBEq, Nat.reduceLT, decide_true, decide_false, List.length, List.length_cons, List.length_nil, Nat.reduceAdd, Bool.and_self, Bool.and_true, and_true, true_and, numF] <;> try simp)) (by (simp only [setn, List.nil_append, List.cons_append, leF, leH_nil, leH_cons, leF_nil, lk, scp, scpL, scpO, resF, resH, resO, resV, resVL, nth, Nat.reduceBEq, Nat.reduceLT, decide_true, decide_false, List.length, List.length_cons, List.length_nil, Nat.reduceAdd, Bool.and_self, Bool.and_true, and_true, true_and, numF] <;> try simp))
     ·have hie : j = (nxU l k).length := by have := of_decide_eq_false hge; omega
      subst hie
      rw [List.take_of_length_le (Nat.le_refl _)]
      refine lend_rule fun a W rep => again a W ?_
      have e1 : (cV m fun i => ahD l d0 i + (if (i : Int) ∈ nxU l k then 1 else 0)) = cV m (ahD l d1) := cV_congr fun i _ => (hda i).symm
      rw [e1] at rep
      exact rep.le (by (simp only [setn, List.nil_append, List.cons_append, leF, leH_nil, leH_cons, leF_nil, lk, scp, scpL, scpO, resF, resH, resO, resV, resVL, nth, Nat.reduceBEq, Nat.reduceLT, decide_true, decide_false, List.length, List.length_cons, List.length_nil, Nat.reduceAdd, Bool.and_self, Bool.and_true, and_true, true_and, numF] <;> try simp)) (by (simp only [setn, List.nil_append, List.cons_append, leF, leH_nil, leH_cons, leF_nil, lk, scp, scpL, scpO, resF, resH, resO, resV, resVL, nth, Nat.reduceBEq, Nat.reduceLT, decide_true, decide_false, List.length, List.length_cons, List.length_nil, Nat.reduceAdd, Bool.and_self, Bool.and_true, and_true, true_and, numF] <;> try simp))
end Go.Proofs.Ytbkpiljencaoeaa
