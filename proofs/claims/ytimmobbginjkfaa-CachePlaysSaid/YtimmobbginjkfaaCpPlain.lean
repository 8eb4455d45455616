/- The document's cache: a list of entries by rising lines; its cells; it lent to a callee. -/
import Derived.Test.YtimmobbginjkfaaCaW9
set_option linter.unusedSimpArgs false
set_option linter.unusedVariables false
set_option linter.unnecessarySimpa false
namespace Go.Ca
open Go Go.Sx Go.Proofs.Ytimmobbginjkfaa
structure Dc where
 sets : Int
 ways : Int
 uses : Int
 es : List En
def dcS (o gw v : Nat) (A : Option Addr) (cc : Nat) (D : Dc) : List SO := [.cells gw 47 [.val (.int .i64 D.sets), .val (.int .i64 D.ways), .own (o + 1) v, .val (.int .i64 D.uses)], .own 44 v 21 A D.es.length cc (esV D.es)]
theorem es_slV (l : List En) : esV l = slV l.length fun i => l.getD i zE := by
 unfold esV slV
 congr 1
 apply List.ext_getElem?
 intro i
 rw [List.getElem?_map]
 by_cases h : i < l.length
 ·rw [List.getElem?_range h, Option.map_some, List.getElem?_eq_getElem h, List.getD_eq_getElem?_getD, List.getElem?_eq_getElem h]
  rfl
 ·rw [List.getElem?_eq_none (by omega), List.getElem?_eq_none (by simp; omega)]
  rfl
theorem es_set (l : List En) (i : Nat) (e : En) : slV l.length (upd (fun i => l.getD i zE) i e) = esV (l.set i e) := by
 rw [es_slV, List.length_set]
 refine slV_congr fun k hk => ?_
 unfold upd
 by_cases h : k = i
 ·subst h; rw [if_pos rfl, List.getD_eq_getElem?_getD, List.getElem?_set_self hk]; rfl
 ·rw [if_neg h]
  show l.getD k zE = _
  rw [List.getD_eq_getElem?_getD, List.getD_eq_getElem?_getD, List.getElem?_set_ne (fun e => h e.symm)]
theorem esV_splice {l : List En} {i k : Nat} {us : List Value} {e : En} (hi : i < l.length) (hk : k + us.length ≤ 21) (he : splice (enV l[i]) k us = enV e) : splice (esV l) (i * 21 + k) us = esV (l.set i e) := by
 rw [← es_set, es_slV]
 refine slV_splice hi hk ?_
 rw [List.getD_eq_getElem?_getD, List.getElem?_eq_getElem hi]
 exact he
theorem esV_setn {l : List En} {i k : Nat} {u : Value} {e : En} (hi : i < l.length) (hk : k < 21) (he : setn (enV l[i]) k u = enV e) : setn (esV l) (i * 21 + k) u = esV (l.set i e) :=
 esV_splice (us := [u]) hi (by show k + 1 ≤ 21; omega) he
theorem esV_atm {l : List En} {i m : Nat} (k : Nat) {v : Value} (hi : i < l.length) (hm : m = i * 21 + k) (h : (enV l[i])[k]? = some v) : (esV l)[m]? = some v := by
 rw [hm, esV_get l hi (List.getElem?_eq_some_iff.1 h).1]; exact h
theorem heapMid {E : Env} {X Y r Z Z' L : List SO} {W W' : World} {nt : Nat} {mk : List Nat} (h : HeapOk E (X ++ (Y ++ r)) W) (hL : fps L = fps Y) (k : HeapOk ⟨W, W.heap.size, fps L, nt, mk⟩ Z W') (hfp : Z'.map SO.fp = Z.map SO.fp) (hx : HExt (X ++ (Y ++ r)) (X ++ (Z' ++ r)))
  (he : ∀ e ∈ Z', EntryOk (X ++ (Z' ++ r)) (fun g => W'.heap[g]?) e) : HeapOk E (X ++ (Z' ++ r)) W' := by
 rw [hL] at k
 have inY : ∀ {g}, g ∈ fps Y → ∃ e ∈ Y, e.fp = some g := fun {g} hg => by
  obtain ⟨i, e, hi, hf⟩ := fps_mem.1 hg
  exact ⟨e, List.mem_of_getElem? (by rw [← nth_eq]; exact hi), hf⟩
 have old1 : ∀ j, E.old j → Env.old ⟨W, W.heap.size, fps Y, nt, mk⟩ j := fun j hj => ⟨Nat.lt_of_lt_of_le hj.1 h.floor, fun hm => by
  obtain ⟨e, hy, hg⟩ := inY hm
  exact (h.fr (e := e) (by simp [hy]) hg).2 hj⟩
 have hap := h.apart
 rw [List.pairwise_append, List.pairwise_append] at hap
 obtain ⟨apX, ⟨apY, apr, apYr⟩, apXY⟩ := hap
 have oldX : ∀ e ∈ X, ∀ g, e.fp = some g → Env.old ⟨W, W.heap.size, fps Y, nt, mk⟩ g := fun e hm g hg => ⟨(h.fr (e := e) (by simp [hm]) hg).1, fun hy => by
  obtain ⟨e', hy', hg'⟩ := inY hy
  exact apXY e hm e' (by simp [hy']) g hg hg'⟩
 have oldr : ∀ e ∈ r, ∀ g, e.fp = some g → Env.old ⟨W, W.heap.size, fps Y, nt, mk⟩ g := fun e hm g hg => ⟨(h.fr (e := e) (by simp [hm]) hg).1, fun hy => by
  obtain ⟨e', hy', hg'⟩ := inY hy
  exact apYr e' hy' e hm g hg' hg⟩
 have inZ : ∀ e ∈ Z', ∀ g, e.fp = some g → ∃ e2 ∈ Z, e2.fp = some g := fun e hm g hg => by
  have : some g ∈ Z.map SO.fp := by rw [← hfp, ← hg]; exact List.mem_map_of_mem hm
  obtain ⟨e2, h2, h3⟩ := List.mem_map.1 this
  exact ⟨e2, h2, h3⟩
 have newZ : ∀ e ∈ Z', ∀ g, e.fp = some g → g < W'.heap.size ∧ ¬ Env.old ⟨W, W.heap.size, fps Y, nt, mk⟩ g := fun e hm g hg => by
  obtain ⟨e2, h2, h3⟩ := inZ e hm g hg
  exact k.fr h2 h3
 refine HeapOk.mk' (h.keep.trans (k.keep.mono old1)) (Nat.le_trans h.floor k.floor) (fun e hm => ?_) (fun e hm g hg => ?_) ?_
 ·rcases List.mem_append.1 hm with h1 | h1
  ·exact (h.ent (e := e) (by simp [h1])).mono hx fun g hg => k.keep.block g (oldX e h1 g hg)
  ·rcases List.mem_append.1 h1 with h2 | h2
   ·exact he e h2
   ·exact (h.ent (e := e) (by simp [h2])).mono hx fun g hg => k.keep.block g (oldr e h2 g hg)
 ·rcases List.mem_append.1 hm with h1 | h1
  ·have := h.fr (e := e) (by simp [h1]) hg
   exact ⟨Nat.lt_of_lt_of_le this.1 k.floor, this.2⟩
  ·rcases List.mem_append.1 h1 with h2 | h2
   ·have := newZ e h2 g hg
    exact ⟨this.1, fun ho => this.2 (old1 g ho)⟩
   ·have := h.fr (e := e) (by simp [h2]) hg
    exact ⟨Nat.lt_of_lt_of_le this.1 k.floor, this.2⟩
 ·rw [List.pairwise_append, List.pairwise_append]
  refine ⟨apX, ⟨?_, apr, fun e he' e2 he2 g hg hg2 => (newZ e he' g hg).2 (oldr e2 he2 g hg2)⟩, fun e he' e2 he2 g hg hg2 => ?_⟩
  ·have h1 : (Z.map SO.fp).Pairwise fun x y => ∀ g, x = some g → y ≠ some g := List.pairwise_map.2 k.apart
   rw [← hfp, List.pairwise_map] at h1
   exact h1
  ·rcases List.mem_append.1 he2 with h2 | h2
   ·exact (newZ e2 h2 g hg2).2 (oldX e he' g hg)
   ·exact apXY e he' e2 (by simp [h2]) g hg hg2
theorem nth_mid (X r : List SO) (a b : SO) : nth (X ++ ([a, b] ++ r)) X.length = some a ∧ nth (X ++ ([a, b] ++ r)) (X.length + 1) = some b := by
 rw [nth_eq, nth_eq]
 constructor
 ·rw [List.getElem?_append_right (Nat.le_refl _)]; simp
 ·rw [List.getElem?_append_right (by omega)]; simp
theorem setn_mid (X r : List SO) (a b a' b' : SO) : setn (setn (X ++ ([a, b] ++ r)) X.length a') (X.length + 1) b' = X ++ ([a', b'] ++ r) := by
 rw [setn_eq, setn_eq, List.set_append_right _ _ (Nat.le_refl _), List.set_append_right _ _ (by omega)]
 simp
theorem dc_ext (X r : List SO) (gw v v' : Nat) (A A' : Option Addr) (cc cc' : Nat) (D D' : Dc) (hv : v < v') : HExt (X ++ (dcS X.length gw v A cc D ++ r)) (X ++ (dcS X.length gw v' A' cc' D' ++ r)) := by
 obtain ⟨n1, n2⟩ := nth_mid X r (.cells gw 47 [.val (.int .i64 D.sets), .val (.int .i64 D.ways), .own (X.length + 1) v, .val (.int .i64 D.uses)]) (.own 44 v 21 A D.es.length cc (esV D.es))
 have h1 := HExt.setBlk n1 (e' := .cells gw 47 [.val (.int .i64 D'.sets), .val (.int .i64 D'.ways), .own (X.length + 1) v', .val (.int .i64 D'.uses)]) (g := gw) rfl rfl
 have h2 := HExt.setOwn (H := setn (X ++ ([.cells gw 47 [.val (.int .i64 D.sets), .val (.int .i64 D.ways), .own (X.length + 1) v, .val (.int .i64 D.uses)], .own 44 v 21 A D.es.length cc (esV D.es)] ++ r)) X.length (.cells gw 47 [.val (.int .i64 D'.sets), .val (.int .i64 D'.ways), .own (X.length + 1) v', .val (.int .i64 D'.uses)])) (i := X.length + 1) (t' := 44) (sz' := 21) (A' := A') (n' := D'.es.length) (c' := cc') (xs' := esV D'.es) (by rw [nth_setn_ne _ (by omega)]; exact n2) (Nat.le_of_lt hv) (fun e => by omega)
 have := h1.trans' h2
 rw [setn_mid] at this
 exact this
theorem dc_ent {h : Nat → Option Obj} {X r : List SO} {gw v v' : Nat} {A : Option Addr} {cc : Nat} {D : Dc} {X0 r0 : List SO} (he : ∀ e ∈ dcS X0.length gw v A cc D, EntryOk (X0 ++ (dcS X0.length gw v A cc D ++ r0)) h e) : ∀ e ∈ dcS X.length gw v' A cc D, EntryOk (X ++ (dcS X.length gw v' A cc D ++ r)) h e := by
 intro e hm
 simp only [dcS, List.mem_cons, List.not_mem_nil, or_false] at hm
 rcases hm with rfl | rfl
 ·obtain ⟨c, hc, hl⟩ := he (.cells gw 47 [.val (.int .i64 D.sets), .val (.int .i64 D.ways), .own (X0.length + 1) v, .val (.int .i64 D.uses)]) (by simp [dcS])
  refine ⟨c, hc, ?_⟩
  simp only [IsL, Is] at hl ⊢
  obtain ⟨_, _, rfl, ⟨_, _, rfl, ⟨w, _, ⟨t, ver', sz, A1, n1, c1, xs1, hn, _, _, hv⟩, ⟨_, _, rfl, rfl, rfl⟩, rfl⟩, rfl⟩, e⟩ := hl
  have h0 := (nth_mid X0 r0 (.cells gw 47 [.val (.int .i64 D.sets), .val (.int .i64 D.ways), .own (X0.length + 1) v, .val (.int .i64 D.uses)]) (.own 44 v 21 A D.es.length cc (esV D.es))).2
  have h1 := (nth_mid X r (.cells gw 47 [.val (.int .i64 D.sets), .val (.int .i64 D.ways), .own (X.length + 1) v', .val (.int .i64 D.uses)]) (.own 44 v' 21 A D.es.length cc (esV D.es))).2
  have hn : nth (X0 ++ ([SO.cells gw 47 [.val (.int .i64 D.sets), .val (.int .i64 D.ways), .own (X0.length + 1) v, .val (.int .i64 D.uses)], .own 44 v 21 A D.es.length cc (esV D.es)] ++ r0)) (X0.length + 1) = some (.own t ver' sz A1 n1 c1 xs1) := hn
  rw [h0] at hn
  injection hn with hn
  injection hn with e1 e2 e3 e4 e5 e6 e7
  subst e1; subst e2; subst e3; subst e4; subst e5; subst e6; subst e7
  have hv := hv rfl
  subst hv
  exact ⟨_, _, rfl, ⟨_, _, rfl, ⟨_, _, ⟨_, _, _, _, _, _, _, h1, Nat.le_refl _, ⟨_, _, _, rfl⟩, fun _ => rfl⟩, ⟨_, _, rfl, rfl, rfl⟩, rfl⟩, rfl⟩, e⟩
 ·exact he (.own 44 v 21 A D.es.length cc (esV D.es)) (by simp [dcS])
theorem dc_lend {E : Env} {X r : List SO} {gw v : Nat} {A : Option Addr} {cc : Nat} {D : Dc} {W : World} (h : HeapOk E (X ++ (dcS X.length gw v A cc D ++ r)) W) (nt : Nat) (mk : List Nat) : HeapOk ⟨W, W.heap.size, fps (dcS 0 gw 0 A cc D), nt, mk⟩ (dcS 0 gw 0 A cc D) W := by
 have he := dc_ent (X := []) (r := []) (v' := 0) (X0 := X) (r0 := r) (v := v) (gw := gw) (A := A) (cc := cc) (D := D) fun e hm => h.ent (e := e) (by simp [hm])
 have hap := h.apart
 rw [List.pairwise_append, List.pairwise_append] at hap
 have apY := hap.2.1.1
 refine HeapOk.mk' (Keep.refl _ _) (Nat.le_refl _) (by simpa using he) (fun e hm g hg => ?_) ?_
 ·have : some g ∈ (dcS X.length gw v A cc D).map SO.fp := by
   have e1 : (dcS X.length gw v A cc D).map SO.fp = (dcS 0 gw 0 A cc D).map SO.fp := rfl
   rw [e1, ← hg]; exact List.mem_map_of_mem hm
  obtain ⟨e2, h2, h3⟩ := List.mem_map.1 this
  refine ⟨(h.fr (e := e2) (by simp [h2]) h3).1, fun ho => ho.2 ?_⟩
  unfold fps
  exact List.mem_filterMap.2 ⟨e, hm, hg⟩
 ·have h1 : ((dcS X.length gw v A cc D).map SO.fp).Pairwise fun x y => ∀ g, x = some g → y ≠ some g := List.pairwise_map.2 apY
  have e1 : (dcS X.length gw v A cc D).map SO.fp = (dcS 0 gw 0 A cc D).map SO.fp := rfl
  rw [e1, List.pairwise_map] at h1
  exact h1
theorem dc_back {E : Env} {X r : List SO} {gw v u v' : Nat} {A A' : Option Addr} {cc cc' : Nat} {D D' : Dc} {W W' : World} {nt : Nat} {mk : List Nat} (h : HeapOk E (X ++ (dcS X.length gw v A cc D ++ r)) W) (hv : v < u) (k : HeapOk ⟨W, W.heap.size, fps (dcS 0 gw 0 A cc D), nt, mk⟩ (dcS 0 gw v' A' cc' D') W') : HeapOk E (X ++ (dcS X.length gw u A' cc' D' ++ r)) W' :=
 heapMid h rfl k rfl (dc_ext X r gw v u A A' cc cc' D D' hv) (dc_ent (X0 := []) (r0 := []) fun e hm => by simpa using k.ent hm)
end Go.Ca
