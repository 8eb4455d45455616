/- Which registers are read, by the document. -/
import Derived.Test.YtlbiogokpadaoaaGreatDoorBgIsa3
import Derived.Test.YtlbiogokpadaoaaGreatDoorSxGhost
import Derived.Test.YtlbiogokpadaoaaGreatDoorIsaSpec
import Derived.Test.YtlbiogokpadaoaaGreatDoorBgCodeRf2
import Derived.Test.YtlbiogokpadaoaaGreatDoorFdPlain
import Derived.Test.YtlbiogokpadaoaaGreatDoorFlSteps
import Derived.Test.YtlbiogokpadaoaaGreatDoorDoW1
import Derived.Test.YtlbiogokpadaoaaGreatDoorFdCode
set_option linter.unusedSimpArgs false
set_option linter.unusedVariables false
set_option linter.unnecessarySimpa false
namespace Go.Proofs.YtlbiogokpadaoaaGreatDoor
open Go Go.Sx Go.Isa Go.Lint
set_option maxRecDepth 100000
def readsL (x : In) : List Int := if x.op = 3 ∨ x.op = 11 then [x.b] else if 4 ≤ x.op ∧ x.op ≤ 10 then [x.b, x.c] else if x.op = 12 ∨ (14 ≤ x.op ∧ x.op ≤ 16) then [x.a, x.b] else []
theorem _root_.Go.Sx.HeapOk.ownsC {b : World} {N nt : Nat} {mk : List Nat} {H : List SO} {W : World} (h : HeapOk ⟨b, N, [], nt, mk⟩ H W) {i g n sz : Nat} {t : TypeId} {l : List SV} {xs : List Value} (hi : nth H i = some (.cells g t l)) (hx : denL H l = some xs) (hl : xs.length = n * sz) (hn : n ≤ maxLen) :
  World.ownsB W N t sz (.slice (some ⟨g, 0, none⟩) n n) n xs := by
 obtain ⟨cur, hc, hL⟩ := h.ents i _ hi
 have hc : W.heap[g]? = some (.cells cur t (0, 0)) := hc
 have e := denL_is l hx hL
 have hsz : cur.size = n * sz := by rw [← Array.length_toList, e, hl]
 refine ⟨hl, .inr ⟨g, 0, n, cur, rfl, ?_, hc, Nat.le_refl _, hn, by rw [hsz]; omega, ?_⟩⟩
 ·have := (h.fresh i _ g hi rfl).2
  simpa only [Env.old, List.not_mem_nil, not_false_eq_true, and_true, Nat.not_lt] using this
 ·rw [List.drop_zero, e, List.take_of_length_le (by rw [hl]; exact Nat.le_refl _)]
theorem reads91 (x : In) (w : World) : CallsV Tryz.prog 91 [In.val x] w fun v w' => ∃ (A : Option Addr) (c : Nat), v = .slice A (readsL x).length c ∧ World.ownsB w' w.heap.size 3 1 (.slice A (readsL x).length c) (readsL x).length ((readsL x).map (Value.int .i64)) ∧ Fresh w w' := by
 refine calls_go (keep := K91) (nt := 34) (svs := [.agg (In.sv x)]) Tryz.func91 x91 n91 (by simp) (by simp only [IsL]; exact ⟨_, _, In.is _ x, rfl, rfl⟩) fun R hR => ?_
 (refine Y_go 600 ?_; dsimp only [X91, In.sv, numF, Nat.reduceAdd, zq9r, zq9q, Y_k, zq5f, zq8o, zq6n, Nat.reduceBEq, zq6k, zq7t, List.length_cons, List.length_nil, zq8l, zq73, zq8m, zq8k, zq0a, zq1z, List.nil_append, YK, zq8t, zq4u, zq8p, zq6u, zq9i, normF, zq6l, zq6m, zq86, zq87, zq8c, zq88, zq9y, t91n17, T91n17, zq5a, zq14, Nat.add_zero, zq5c, zq1o, nth, zq1k, dropL, takeL, zq19, zq18, t91n15, T91n15, zq9t, zq50, zq6q, zq04, zq92, zq9b, zq0i, zq9c, t91n0, T91n0, zq9s, zq6h, zq8x, YC, zq9p, zq6f, t91n1, T91n1, zq5h, List.map, repL, List.cons_append, zq23, Nat.reduceMul, zq7u, zq20, splice, setn, zq24, zq26, zq89, zq8e, zq9x, t91n14, T91n14, zq8a, t91n8, T91n8, t91n7, T91n7, t91n6, T91n6, t91n5, T91n5, t91n4, T91n4, t91n3, T91n3, t91n2, T91n2, t91n13, T91n13, t91n12, T91n12, t91n11, T91n11, t91n10, T91n10, t91n9, T91n9, zqa1, t91n16, T91n16])
 intro g
 have nil : ∀ s, readsL x = [] → denAll s.H s.F [2] = some [.slice none 0 0] → RetG (cxOf Tryz.prog Tryz.f91 K91 T91 R) ⟨w, w.heap.size, [], 34, []⟩ s := fun s h hd =>
  ret_rule (vs := _) r91 rfl hd fun W' hW' => hR _ _ ⟨none, 0, by rw [h]; rfl, by rw [h]; exact ownsB_nil _ _ _ _, hW'.fresh'⟩
 have own : ∀ s (j g : Nat) (q : List Int) (l : List SV), readsL x = q → q.length ≤ 2 → nth s.H j = some (.cells g 3 l) → denL s.H l = some (q.map (Value.int .i64)) → denAll s.H s.F [2] = some [.slice (some ⟨g, 0, none⟩) q.length q.length] → RetG (cxOf Tryz.prog Tryz.f91 K91 T91 R) ⟨w, w.heap.size, [], 34, []⟩ s := fun s j g q l h h2 hj hx hd =>
  ret_rule (vs := _) r91 rfl hd fun W' hW' => hR _ _ ⟨some ⟨g, 0, none⟩, q.length, by rw [h]; rfl, by rw [h]; exact hW'.ownsC (i := j) hj hx (by simp) (by simp only [maxLen]; omega), hW'.fresh'⟩
 repeat' (first | (refine ⟨fun hA => ?_, fun hB => ?_⟩) | (refine fun (_ : Nat) => ?_) | fail)
 all_goals first | (exact nil _ (by clear nil own hR; simp only [beq_iff_eq, beq_eq_false_iff_ne, ne_eq] at *; unfold readsL; rw [if_neg (by omega), if_neg (by omega), if_neg (by omega)]) rfl) | (exact own _ 1 _ [x.b] _ (by clear nil own hR; simp only [beq_iff_eq, beq_eq_false_iff_ne, ne_eq] at *; unfold readsL; rw [if_pos (by omega)]) (by simp) rfl rfl rfl) | (exact own _ 1 _ [x.b, x.c] _ (by clear nil own hR; simp only [beq_iff_eq, beq_eq_false_iff_ne, ne_eq] at *; unfold readsL; rw [if_neg (by omega), if_pos (by omega)]) (by simp) rfl rfl rfl) | (exact own _ 1 _ [x.a, x.b] _ (by clear nil own hR; simp only [beq_iff_eq, beq_eq_false_iff_ne, ne_eq] at *; unfold readsL; rw [if_neg (by omega), if_neg (by omega), if_pos (by omega)]) (by simp) rfl rfl rfl) | skip
theorem reads_range {x : In} (hx : legalB x = true) {r : Int} (h : r ∈ readsL x) : 0 ≤ r ∧ r < 8 := by
 obtain ⟨ha, hb, hc⟩ := legal_regs hx
 unfold readsL at h
 split at h
 ·simp at h; subst h; exact hb (.inl (by omega))
 ·split at h
  ·simp at h
   rcases h with rfl | rfl
   ·exact hb (.inl (by omega))
   ·exact hc (by assumption)
  ·split at h
   ·simp at h
    rcases h with rfl | rfl
    ·exact ha (by omega)
    ·exact hb (by omega)
   ·simp at h
end Go.Proofs.YtlbiogokpadaoaaGreatDoor
namespace Go.Proofs.YtlbiogokpadaoaaGreatDoor
open Go Go.Sx Go.Isa
set_option maxRecDepth 100000
def knC (o : Option Int) : List Value := [.bool o.isSome, .int .u64 (o.getD 0)]
def knV (s : List (Option Int)) : List Value := s.flatMap knC
theorem knV_len (s : List (Option Int)) : (knV s).length = s.length * 2 := flat_len (f := knC) (fun _ => rfl) s
theorem knV_get {s : List (Option Int)} {i k : Nat} {o : Option Int} (h : s[i]? = some o) (hk : k < 2) : (knV s)[i * 2 + k]? = (knC o)[k]? := by
 obtain ⟨h1, h2⟩ := List.getElem?_eq_some_iff.1 h
 unfold knV
 rw [flat_get (f := knC) (fun _ => rfl) s h1 hk, h2]
def stOk (s : List (Option Int)) : Prop := s.length = 8 ∧ ∀ o ∈ s, ∀ v, o = some v → isU v
theorem has145 (s : List (Option Int)) (g : Nat) (r : Int) (w : World) (hs : s.length = 8) (h0 : 0 ≤ r) (h1 : r < 8) (hA : RowAt w (some ⟨g, 0, none⟩) (knV s)) :
  CallsV Tryz.prog 145 [.int .i64 r, .pointer (some ⟨g, 0, none⟩)] w fun v w' => v = .bool (!knO s r) ∧ Fresh w w' := by
 refine calls_go (keep := K145) (nt := 9) (svs := [.val (.int .i64 r), .adr (some ⟨g, 0, none⟩) 0]) Tryz.func145 x145 n145 (by simp) (by simp [IsL, Is, Addr.add]) fun R hR => ?_
 (refine Y_go 600 ?_; dsimp only [X145, numF, Nat.reduceAdd, zq9r, zq9q, Y_k, zq4u, zq8p, zq6p, YK, zq8t, zq9i, normF, zq6n, Nat.reduceBEq, zq6l, zq6k, zq8a, zq8d, zq87, zq9y, t145n0, T145n0, zq8o, zq59, zq06, zq12, zq5c, zq1p, zq1d, List.nil_append, zq1c, List.cons_append, zq1b, zq17, zq5g, List.map, zq6q, zq22, zq25, zq5s, zq3o, eqSV, zq8w, zq8v, zq96, zq3q, zq9x])
 have ho : s[r.toNat]? = some (s[r.toNat]'(by omega)) := List.getElem?_eq_getElem (by omega)
 have hk : knO s r = (s[r.toNat]'(by omega)).isSome := by unfold knO; rw [List.getD_eq_getElem?_getD, ho]; rfl
 generalize (s[r.toNat]'(by omega)) = o at ho hk
 refine ⟨⟨h0, h1, rfl⟩, o.isSome, ?_, o.getD 0, ?_, ?_⟩
 ·have := hA.cell (nt := 9) (j := r.toNat * 2 + 0) (u := .bool o.isSome) (by rw [knV_get ho (by omega)]; rfl)
  simpa using this
 ·exact hA.cell (by rw [Nat.zero_add, knV_get ho (by omega)]; rfl)
 ·refine ret_rule (vs := [.bool (!knO s r)]) r145 rfl ?_ fun W hW => hR _ _ ⟨rfl, hW.fresh'⟩
  show some [Value.bool (o.isSome == false && (o.getD 0 == 0 && true))] = _
  rw [hk]
  cases o <;> rfl
theorem index162 (s : List (Option Int)) (g : Nat) (l : List Int) (A : Option Addr) (c : Nat) (w : World) (hs : s.length = 8) (hl : l.length ≤ 100) (hr : ∀ r ∈ l, 0 ≤ r ∧ r < 8) (hA : RowAt w A (isV l)) (hS : RowAt w (some ⟨g, 0, none⟩) (knV s)) :
  CallsV Tryz.prog 162 [.slice A l.length c, .func (.func 145) #[] #[.pointer (some ⟨g, 0, none⟩)]] w fun v w' => (∃ n : Int, v = .int .i64 n ∧ decide (n ≥ 0) = l.any fun r => !knO s r) ∧ Fresh w w' := by
 refine calls_go (keep := K162) (nt := 19) (svs := [.val (.slice A l.length c), .val (.func (.func 145) #[] #[.pointer (some ⟨g, 0, none⟩)])]) Tryz.func162 x162 n162 (by simp) (by simp [IsL, Is]) fun R hR => ?_
 (refine Y_go 600 ?_; dsimp only [X162, numF, Nat.reduceAdd, zq9r, zq9q, Y_k, zq4u, zq8p, zq6q, YK, zq8t, zq9i, normF, zq6n, Nat.reduceBEq, zq6l, zq6k, zq6m, zq86, zq87, zq9y, t162n6, T162n6, zq8o, zq55, zq0r, zq9t, zq9v])
 refine loop_go (α := Nat) (fun i => i ≤ l.length ∧ (l.take i).any (fun r => !knO s r) = false) (fun _ => ⟨w, w.heap.size, [], 19, []⟩) (fun i => { F := [(0, .val (.slice A l.length c)), (1, .val (.func (.func 145) #[] #[.pointer (some ⟨g, 0, none⟩)])), (7, .val (.int .i64 (l.length : Int))), (8, .val (.int .i64 (i : Int)))], H := [] }) (fun i => l.length - i) (fun _ => rfl) ?start ?round
 case start =>
  intro a W rep
  exact ⟨0, ⟨Nat.zero_le _, by simp⟩, rep.le (by (simp only [setn, List.nil_append, List.cons_append, leF, leH_nil, leH_cons, leF_nil, lk, scp, scpL, scpO, resF, resH, resO, resV, resVL, nth, Nat.reduceBEq, Nat.reduceLT, decide_true, decide_false, List.length, List.length_cons, List.length_nil, Nat.reduceAdd, Bool.and_self, Bool.and_true, and_true, true_and, numF] <;> try simp)) (by (simp only [setn, List.nil_append, List.cons_append, leF, leH_nil, leH_cons, leF_nil, lk, scp, scpL, scpO, resF, resH, resO, resV, resVL, nth, Nat.reduceBEq, Nat.reduceLT, decide_true, decide_false, List.length, List.length_cons, List.length_nil, Nat.reduceAdd, Bool.and_self, Bool.and_true, and_true, true_and, numF] <;> try simp))⟩
 case round =>
  rintro i ⟨hi, ha⟩ I again
  have hi1 : ((i : Nat) : Int).toNat = i := by omega
  (refine Y_go 600 ?_; dsimp only [zq9y, t162n4, T162n4, zq9r, zq9q, Y_k, zq50, zq8o, zq6n, Nat.reduceBEq, zq6l, zq6k, zq04, zq92, zq9b, zq0i, zq9e, YK, zq8t, zq9i, normF, zq6m, zq86, zq87, t162n3, T162n3, zq9s, zq6h, zq8x, YC, zq9p, t162n2, T162n2, zq9t, zq4u, zq89, t162n1, T162n1, zq58, zq06, zq0w, zq5c, zq1p, zq1c, List.nil_append, zq1b, zq18, zq9k, zq9u, popTo, zq6i, YP, t162n5, T162n5, zq8p, zq6q, zq8a, zq9x])
  refine ⟨fun hlt => ?_, fun hge => ?_⟩
  ·have hlt : i < l.length := by have := of_decide_eq_true hlt; omega
   have hz : l[i]? = some l[i] := List.getElem?_eq_getElem hlt
   have hzr := hr _ (List.getElem_mem hlt)
   generalize l[i] = r at hz hzr
   have sA := hA.isSome (j := i) (by rw [isV_len]; exact hlt)
   rw [hi1]
   refine ⟨⟨by omega, by omega, sA⟩, r, hA.cell (by rw [Nat.mul_one]; exact isV_get _ _ _ hz), ?_⟩
   have hst : (l.take (i + 1)).any (fun r => !knO s r) = !knO s r := by rw [takeI_snoc hz, List.any_append, ha]; simp
   cases hk : knO s r with
   | true =>
    refine callv_val (f := 145) (fst := []) (caps := [.pointer (some ⟨g, 0, none⟩)]) (vs := [.int .i64 r]) rfl rfl rfl (fun W hW => has145 s g r W hs hzr.1 hzr.2 (hS.keep hW.fresh')) fun v hv => ⟨.bf, by rw [hv, hk]; simp [Is], ?_⟩
    (refine Y_go 600 ?_; dsimp only [zq8t, zq9i, normF, zq6n, Nat.reduceBEq, zq6l, zq6k, zq6m, zq8a, zq89, zq87, zq86, zq9s, zq8o, zq6g, YC, zq9p, zqa1, zq9q, Y_k, zq4w, zq8p, zq6q, zq04, zq92, zq9b, zq0e, YK, zq4u, zqa2])
    exact ⟨((i + 1 : Nat) : Int), ArOk.to (by omega) (by omega) (by omega), lend_rule fun a W rep => again (i + 1) ⟨by omega, by rw [hst, hk]; rfl⟩ (by show _ - (i + 1) < _ - i; omega) a W (rep.le (by (simp only [setn, List.nil_append, List.cons_append, leF, leH_nil, leH_cons, leF_nil, lk, scp, scpL, scpO, resF, resH, resO, resV, resVL, nth, Nat.reduceBEq, Nat.reduceLT, decide_true, decide_false, List.length, List.length_cons, List.length_nil, Nat.reduceAdd, Bool.and_self, Bool.and_true, and_true, true_and, numF] <;> try simp)) (by (simp only [setn, List.nil_append, List.cons_append, leF, leH_nil, leH_cons, leF_nil, lk, scp, scpL, scpO, resF, resH, resO, resV, resVL, nth, Nat.reduceBEq, Nat.reduceLT, decide_true, decide_false, List.length, List.length_cons, List.length_nil, Nat.reduceAdd, Bool.and_self, Bool.and_true, and_true, true_and, numF] <;> try simp)))⟩
   | false =>
    refine callv_val (f := 145) (fst := []) (caps := [.pointer (some ⟨g, 0, none⟩)]) (vs := [.int .i64 r]) rfl rfl rfl (fun W hW => has145 s g r W hs hzr.1 hzr.2 (hS.keep hW.fresh')) fun v hv => ⟨.bt, by rw [hv, hk]; simp [Is], ?_⟩
    (refine Y_go 600 ?_; dsimp only [zq8t, zq9i, normF, zq6n, Nat.reduceBEq, zq6l, zq6k, zq6m, zq89, zq87, zq86, zq9s, zq8o, zq6f, YC, zq9y, t162n0, T162n0, zq9r, zq9q, Y_k, zq4u, YK, zq9x])
    refine ret_rule (vs := [.int .i64 (i : Int)]) r162 rfl rfl fun W hW => hR _ _ ⟨⟨_, rfl, ?_⟩, hW.fresh'⟩
    have : (l.any fun r => !knO s r) = true := by
     rw [← List.take_append_drop (i + 1) l, List.any_append, hst, hk]; simp
    rw [this]; simp
  ·have hie : i = l.length := by have := of_decide_eq_false hge; omega
   subst hie
   rw [List.take_length] at ha
   exact ret_rule (vs := [.int .i64 (-1)]) r162 rfl rfl fun W hW => hR _ _ ⟨⟨_, rfl, by rw [ha]; rfl⟩, hW.fresh'⟩
theorem cont144 (s : List (Option Int)) (g : Nat) (l : List Int) (A : Option Addr) (c : Nat) (w : World) (hs : s.length = 8) (hl : l.length ≤ 100) (hr : ∀ r ∈ l, 0 ≤ r ∧ r < 8) (hA : RowAt w A (isV l)) (hS : RowAt w (some ⟨g, 0, none⟩) (knV s)) :
  CallsV Tryz.prog 144 [.slice A l.length c, .func (.func 145) #[] #[.pointer (some ⟨g, 0, none⟩)]] w fun v w' => v = .bool (l.any fun r => !knO s r) ∧ Fresh w w' := by
 refine calls_go (keep := K144) (nt := 9) (svs := [.val (.slice A l.length c), .val (.func (.func 145) #[] #[.pointer (some ⟨g, 0, none⟩)])]) Tryz.func144 x144 n144 (by simp) (by simp [IsL, Is]) fun R hR => ?_
 (refine Y_go 600 ?_; dsimp only [X144, numF, Nat.reduceAdd, zq9r, zq9q, Y_k, zq4u, zq8p, zq6p, YK, zq8t, zq9i, normF, zq6n, Nat.reduceBEq, zq6l, zq6k, zq8a, zq87, zq9y, t144n0, T144n0, zq8o, zq9j])
 refine call_val (vs := [.slice A l.length c, .func (.func 145) #[] #[.pointer (some ⟨g, 0, none⟩)]]) rfl (fun W hW => index162 s g l A c W hs hl hr (hA.keep hW.fresh') (hS.keep hW.fresh')) fun v ⟨n, hv, hn⟩ => ⟨.val (.int .i64 n), by rw [hv]; simp [Is], ?_⟩
 (refine Y_go 600 ?_; dsimp only [zq8t, Y_k, zq50, zq8o, zq6n, Nat.reduceBEq, zq6k, zq8p, zq6q, zq04, zq92, zq9b, zq0i, zq9h, YK, zq4u, zq9i, normF, zq6l, zq87, zq9x])
 refine ret_rule (vs := [.bool (l.any fun r => !knO s r)]) r144 rfl ?_ fun W hW => hR _ _ ⟨rfl, hW.fresh'⟩
 show some [Value.bool (decide (n ≥ 0))] = _
 rw [hn]
theorem st8 {s : List (Option Int)} (h : s.length = 8) : ∃ o0 o1 o2 o3 o4 o5 o6 o7, s = [o0, o1, o2, o3, o4, o5, o6, o7] := by
 match s, h with
 | [o0, o1, o2, o3, o4, o5, o6, o7], _ => exact ⟨o0, o1, o2, o3, o4, o5, o6, o7, rfl⟩
theorem has116 (s : List (Option Int)) (l : List Int) (A : Option Addr) (c : Nat) (w : World) (hs : s.length = 8) (hl : l.length ≤ 100) (hr : ∀ r ∈ l, 0 ≤ r ∧ r < 8) (hA : RowAt w A (isV l)) :
  CallsV Tryz.prog 116 [.agg (knV s).toArray, .slice A l.length c] w fun v w' => v = .bool (l.all (knO s)) ∧ Fresh w w' := by
 obtain ⟨o0, o1, o2, o3, o4, o5, o6, o7, rfl⟩ := st8 hs
 refine calls_go (keep := K116) (nt := 9) (svs := [.agg [.val (.bool o0.isSome), .val (.int .u64 (o0.getD 0)), .val (.bool o1.isSome), .val (.int .u64 (o1.getD 0)), .val (.bool o2.isSome), .val (.int .u64 (o2.getD 0)), .val (.bool o3.isSome), .val (.int .u64 (o3.getD 0)), .val (.bool o4.isSome), .val (.int .u64 (o4.getD 0)), .val (.bool o5.isSome), .val (.int .u64 (o5.getD 0)), .val (.bool o6.isSome), .val (.int .u64 (o6.getD 0)), .val (.bool o7.isSome), .val (.int .u64 (o7.getD 0))], .val (.slice A l.length c)]) Tryz.func116 x116 n116 (by simp) (by simp [IsL, Is, knV, knC]) fun R hR => ?_
 (refine Y_go 600 ?_; dsimp only [X116, numF, Nat.reduceAdd, zq9r, zq9q, Y_k, zq5f, zq8o, zq6n, Nat.reduceBEq, zq6k, zq7t, List.length_cons, List.length_nil, zq8l, zq7g, zq8m, zq73, zq8k, zq0a, zq1z, List.nil_append, YK, zq8t, zq4u, zq8p, zq6p, zq9i, normF, zq6l, zq8a, zq8c, zq87, zq88, zq9y, t116n0, T116n0, zq5k, evL, zq9j])
 intro g
 refine call_val (vs := [.slice A l.length c, .func (.func 145) #[] #[.pointer (some ⟨g, 0, none⟩)]]) rfl (fun W hW => cont144 [o0, o1, o2, o3, o4, o5, o6, o7] g l A c W hs hl hr (hA.keep hW.fresh') (hW.cellsAt (i := 0) rfl rfl)) fun v hv => ⟨.val (.bool (l.any fun r => !knO [o0, o1, o2, o3, o4, o5, o6, o7] r)), by rw [hv]; simp [Is], ?_⟩
 (refine Y_go 600 ?_; dsimp only [zq8t, Y_k, zq53, zq8o, zq6n, Nat.reduceBEq, zq6k, zq0o, YK, zq4u, zq9i, normF, zq6l, zq87, zq8c, zq88, zq9x])
 refine ret_rule (vs := [.bool (l.all (knO [o0, o1, o2, o3, o4, o5, o6, o7]))]) r116 rfl ?_ fun W hW => hR _ _ ⟨rfl, hW.fresh'⟩
 show some [Value.bool (!(l.any fun r => !knO [o0, o1, o2, o3, o4, o5, o6, o7] r))] = _
 rw [List.all_eq_not_any_not]
theorem regs117 (s : List (Option Int)) (w : World) (hs : s.length = 8) : CallsV Tryz.prog 117 [.agg (knV s).toArray] w fun v w' => v = .agg ((rgO s).map uV).toArray ∧ Fresh w w' := by
 obtain ⟨o0, o1, o2, o3, o4, o5, o6, o7, rfl⟩ := st8 hs
 refine calls_go (keep := K117) (nt := 16) (svs := [.agg [.val (.bool o0.isSome), .val (.int .u64 (o0.getD 0)), .val (.bool o1.isSome), .val (.int .u64 (o1.getD 0)), .val (.bool o2.isSome), .val (.int .u64 (o2.getD 0)), .val (.bool o3.isSome), .val (.int .u64 (o3.getD 0)), .val (.bool o4.isSome), .val (.int .u64 (o4.getD 0)), .val (.bool o5.isSome), .val (.int .u64 (o5.getD 0)), .val (.bool o6.isSome), .val (.int .u64 (o6.getD 0)), .val (.bool o7.isSome), .val (.int .u64 (o7.getD 0))]]) Tryz.func117 x117 n117 (by simp) (by simp [IsL, Is, knV, knC]) fun R hR => ?_
 (refine Y_go 600 ?_; dsimp only [X117, numF, Nat.reduceAdd, zq9r, zq9q, Y_k, zq5f, zq8o, zq6n, Nat.reduceBEq, zq6k, zq7t, List.length_cons, List.length_nil, zq8l, zq7g, zq8m, zq73, zq8k, zq0a, zq1z, List.nil_append, YK, zq8t, zq5e, List.map, zq6q, List.cons_append, zq9i, normF, zq6l, zq6m, zq86, zq8c, zq88, zq9y, t117n5, T117n5, zq5c, zq1o, nth, zq1k, dropL, takeL, zq19, zq17, zq4u, zq8p, zq87, zq9t, zq9v])
 intro g g1
 refine loop_go (α := Nat) (fun i => i ≤ 8) (fun _ => ⟨w, w.heap.size, [], 16, []⟩) (fun i => { F := [(2, .ptr 0 0), (5, .agg [.val (.bool o0.isSome), .val (.int .u64 (o0.getD 0)), .val (.bool o1.isSome), .val (.int .u64 (o1.getD 0)), .val (.bool o2.isSome), .val (.int .u64 (o2.getD 0)), .val (.bool o3.isSome), .val (.int .u64 (o3.getD 0)), .val (.bool o4.isSome), .val (.int .u64 (o4.getD 0)), .val (.bool o5.isSome), .val (.int .u64 (o5.getD 0)), .val (.bool o6.isSome), .val (.int .u64 (o6.getD 0)), .val (.bool o7.isSome), .val (.int .u64 (o7.getD 0))]), (6, .val (.int .i64 (i : Int)))], H := [.cells g1 50 [.val (.int .u64 (if 0 < i then o0.getD 0 else 0)), .val (.int .u64 (if 1 < i then o1.getD 0 else 0)), .val (.int .u64 (if 2 < i then o2.getD 0 else 0)), .val (.int .u64 (if 3 < i then o3.getD 0 else 0)), .val (.int .u64 (if 4 < i then o4.getD 0 else 0)), .val (.int .u64 (if 5 < i then o5.getD 0 else 0)), .val (.int .u64 (if 6 < i then o6.getD 0 else 0)), .val (.int .u64 (if 7 < i then o7.getD 0 else 0))]] }) (fun i => 8 - i) (fun _ => rfl) ?start ?round
 case start =>
  intro a W rep
  exact ⟨0, Nat.zero_le _, (rep.pick [1] (by decide)).le (by (simp only [renF, renV, renVL, renO, pickH, pickE, posOf, setn, List.nil_append, List.cons_append, leF, leH_nil, leH_cons, leF_nil, lk, scp, scpL, scpO, resF, resH, resO, resV, resVL, nth, Nat.reduceBEq, Nat.reduceLT, decide_true, decide_false, List.length, List.length_cons, List.length_nil, Nat.reduceAdd, Bool.and_self, Bool.and_true, and_true, true_and, numF] <;> try simp)) (by (simp only [renF, renV, renVL, renO, pickH, pickE, posOf, setn, List.nil_append, List.cons_append, leF, leH_nil, leH_cons, leF_nil, lk, scp, scpL, scpO, resF, resH, resO, resV, resVL, nth, Nat.reduceBEq, Nat.reduceLT, decide_true, decide_false, List.length, List.length_cons, List.length_nil, Nat.reduceAdd, Bool.and_self, Bool.and_true, and_true, true_and, numF] <;> try simp))⟩
 case round =>
  intro i hi I again
  have hi : i ≤ 8 := hi
  have hc : i = 0 ∨ i = 1 ∨ i = 2 ∨ i = 3 ∨ i = 4 ∨ i = 5 ∨ i = 6 ∨ i = 7 ∨ i = 8 := by omega
  rcases hc with h | h | h | h | h | h | h | h | h <;> subst h
  ·(refine Y_go 600 ?_; dsimp only [zq9y, t117n3, T117n3, zq9r, zq9q, Y_k, zq50, zq8o, zq6n, Nat.reduceBEq, zq6l, zq6k, zq8p, zq6q, zq04, zq92, zq9b, zq0i, zq9e, YK, zq8t, zq9i, normF, zq6m, zq87, zq88, zq86, zq8c, t117n2, T117n2, zq9s, zq6h, zq8x, YC, zq9p, t117n1, T117n1, zq9t, zq4u, zq5r, zq06, zq3m, zq5e, List.length_cons, List.length_nil, Nat.reduceAdd, List.map, zq6p, List.cons_append, List.nil_append, zq5d, zq7t, zq9u, popTo, zq6i, YP, t117n4, T117n4, zq5c, zq1o, nth, zq1k, dropL, takeL, zq19, zq17, zq8l, zq73, zq8m, zq8k, zq0a, zq1x, zq1t, zq1r, splice, setn, zq8s, zq8a, zq9x])
   refine ⟨fun _ => ⟨⟨by decide, by decide⟩, [.val (.bool o0.isSome), .val (.int .u64 (o0.getD 0))], rfl, fun g2 => ?_⟩, fun h => absurd h (by decide)⟩
   dsimp only [List.length_cons, List.length_nil, Nat.reduceAdd, Nat.reduceBEq, zq8l, zq7g, zq8m, zq73, zq8k, zq0a, zq1x, nth, zq1t, dropL, takeL, zq1r, splice, setn, YK, zq8s, zq9i, normF, zq6n, zq6l, zq6m, zq6k, zq89, zq87, zq88, zq8c, zq86, zq9y, t117n0, T117n0, zq9q, Y_k, zq4u, zq8o, zq8t, zq5a, zq14, zq5c, zq1o, zq1k, zq19, zq18, zq59, zq06, zq10, zq5d, zq7u]
   rw [show (0 + ((0 : Nat) : Int).toNat * 1) = 0 from rfl]
   dsimp only [dropL, takeL, zq1r, splice, setn, YK, zq8s, zq9i, normF, zq6n, Nat.reduceBEq, zq6l, zq6m, zq6k, zq89, zq87, zq88, zq8c, zq86, zqa1, zq9q, Y_k, zq4w, zq8o, zq8p, zq6q, zq04, zq92, zq9b, zq0e, zq8t, zq4u, zqa2]
   exact ⟨⟨by decide, by decide⟩, ((0 + 1 : Nat) : Int), ArOk.to (by decide) (by decide) (by decide), lend_rule fun a W rep => again (0 + 1) (by decide) (by decide) a W (rep.le (by (simp only [setn, List.nil_append, List.cons_append, leF, leH_nil, leH_cons, leF_nil, lk, scp, scpL, scpO, resF, resH, resO, resV, resVL, nth, Nat.reduceBEq, Nat.reduceLT, decide_true, decide_false, List.length, List.length_cons, List.length_nil, Nat.reduceAdd, Bool.and_self, Bool.and_true, and_true, true_and, numF] <;> try simp)) (by (simp only [setn, List.nil_append, List.cons_append, leF, leH_nil, leH_cons, leF_nil, lk, scp, scpL, scpO, resF, resH, resO, resV, resVL, nth, Nat.reduceBEq, Nat.reduceLT, decide_true, decide_false, List.length, List.length_cons, List.length_nil, Nat.reduceAdd, Bool.and_self, Bool.and_true, and_true, true_and, numF] <;> try simp)))⟩
  ·(refine Y_go 600 ?_; dsimp only [zq9y, t117n3, T117n3, zq9r, zq9q, Y_k, zq50, zq8o, zq6n, Nat.reduceBEq, zq6l, zq6k, zq8p, zq6q, zq04, zq92, zq9b, zq0i, zq9e, YK, zq8t, zq9i, normF, zq6m, zq87, zq88, zq86, zq8c, t117n2, T117n2, zq9s, zq6h, zq8x, YC, zq9p, t117n1, T117n1, zq9t, zq4u, zq5r, zq06, zq3m, zq5e, List.length_cons, List.length_nil, Nat.reduceAdd, List.map, zq6p, List.cons_append, List.nil_append, zq5d, zq7t, zq9u, popTo, zq6i, YP, t117n4, T117n4, zq5c, zq1o, nth, zq1k, dropL, takeL, zq19, zq17, zq8l, zq73, zq8m, zq8k, zq0a, zq1x, zq1t, zq1r, splice, setn, zq8s, zq8a, zq9x])
   refine ⟨fun _ => ⟨⟨by decide, by decide⟩, [.val (.bool o1.isSome), .val (.int .u64 (o1.getD 0))], rfl, fun g2 => ?_⟩, fun h => absurd h (by decide)⟩
   dsimp only [List.length_cons, List.length_nil, Nat.reduceAdd, Nat.reduceBEq, zq8l, zq7g, zq8m, zq73, zq8k, zq0a, zq1x, nth, zq1t, dropL, takeL, zq1r, splice, setn, YK, zq8s, zq9i, normF, zq6n, zq6l, zq6m, zq6k, zq89, zq87, zq88, zq8c, zq86, zq9y, t117n0, T117n0, zq9q, Y_k, zq4u, zq8o, zq8t, zq5a, zq14, zq5c, zq1o, zq1k, zq19, zq18, zq59, zq06, zq10, zq5d, zq7u]
   rw [show (0 + ((1 : Nat) : Int).toNat * 1) = 1 from rfl]
   dsimp only [dropL, takeL, zq1r, splice, setn, YK, zq8s, zq9i, normF, zq6n, Nat.reduceBEq, zq6l, zq6m, zq6k, zq89, zq87, zq88, zq8c, zq86, zqa1, zq9q, Y_k, zq4w, zq8o, zq8p, zq6q, zq04, zq92, zq9b, zq0e, zq8t, zq4u, zqa2]
   exact ⟨⟨by decide, by decide⟩, ((1 + 1 : Nat) : Int), ArOk.to (by decide) (by decide) (by decide), lend_rule fun a W rep => again (1 + 1) (by decide) (by decide) a W (rep.le (by (simp only [setn, List.nil_append, List.cons_append, leF, leH_nil, leH_cons, leF_nil, lk, scp, scpL, scpO, resF, resH, resO, resV, resVL, nth, Nat.reduceBEq, Nat.reduceLT, decide_true, decide_false, List.length, List.length_cons, List.length_nil, Nat.reduceAdd, Bool.and_self, Bool.and_true, and_true, true_and, numF] <;> try simp)) (by (simp only [setn, List.nil_append, List.cons_append, leF, leH_nil, leH_cons, leF_nil, lk, scp, scpL, scpO, resF, resH, resO, resV, resVL, nth, Nat.reduceBEq, Nat.reduceLT, decide_true, decide_false, List.length, List.length_cons, List.length_nil, Nat.reduceAdd, Bool.and_self, Bool.and_true, and_true, true_and, numF] <;> try simp)))⟩
  ·(refine Y_go 600 ?_; dsimp only [zq9y, t117n3, T117n3, zq9r, zq9q, Y_k, zq50, zq8o, zq6n, Nat.reduceBEq, zq6l, zq6k, zq8p, zq6q, zq04, zq92, zq9b, zq0i, zq9e, YK, zq8t, zq9i, normF, zq6m, zq87, zq88, zq86, zq8c, t117n2, T117n2, zq9s, zq6h, zq8x, YC, zq9p, t117n1, T117n1, zq9t, zq4u, zq5r, zq06, zq3m, zq5e, List.length_cons, List.length_nil, Nat.reduceAdd, List.map, zq6p, List.cons_append, List.nil_append, zq5d, zq7t, zq9u, popTo, zq6i, YP, t117n4, T117n4, zq5c, zq1o, nth, zq1k, dropL, takeL, zq19, zq17, zq8l, zq73, zq8m, zq8k, zq0a, zq1x, zq1t, zq1r, splice, setn, zq8s, zq8a, zq9x])
   refine ⟨fun _ => ⟨⟨by decide, by decide⟩, [.val (.bool o2.isSome), .val (.int .u64 (o2.getD 0))], rfl, fun g2 => ?_⟩, fun h => absurd h (by decide)⟩
   dsimp only [List.length_cons, List.length_nil, Nat.reduceAdd, Nat.reduceBEq, zq8l, zq7g, zq8m, zq73, zq8k, zq0a, zq1x, nth, zq1t, dropL, takeL, zq1r, splice, setn, YK, zq8s, zq9i, normF, zq6n, zq6l, zq6m, zq6k, zq89, zq87, zq88, zq8c, zq86, zq9y, t117n0, T117n0, zq9q, Y_k, zq4u, zq8o, zq8t, zq5a, zq14, zq5c, zq1o, zq1k, zq19, zq18, zq59, zq06, zq10, zq5d, zq7u]
   rw [show (0 + ((2 : Nat) : Int).toNat * 1) = 2 from rfl]
   dsimp only [dropL, takeL, zq1r, splice, setn, YK, zq8s, zq9i, normF, zq6n, Nat.reduceBEq, zq6l, zq6m, zq6k, zq89, zq87, zq88, zq8c, zq86, zqa1, zq9q, Y_k, zq4w, zq8o, zq8p, zq6q, zq04, zq92, zq9b, zq0e, zq8t, zq4u, zqa2]
   exact ⟨⟨by decide, by decide⟩, ((2 + 1 : Nat) : Int), ArOk.to (by decide) (by decide) (by decide), lend_rule fun a W rep => again (2 + 1) (by decide) (by decide) a W (rep.le (by (simp only [setn, List.nil_append, List.cons_append, leF, leH_nil, leH_cons, leF_nil, lk, scp, scpL, scpO, resF, resH, resO, resV, resVL, nth, Nat.reduceBEq, Nat.reduceLT, decide_true, decide_false, List.length, List.length_cons, List.length_nil, Nat.reduceAdd, Bool.and_self, Bool.and_true, and_true, true_and, numF] <;> try simp)) (by (simp only [setn, List.nil_append, List.cons_append, leF, leH_nil, leH_cons, leF_nil, lk, scp, scpL, scpO, resF, resH, resO, resV, resVL, nth, Nat.reduceBEq, Nat.reduceLT, decide_true, decide_false, List.length, List.length_cons, List.length_nil, Nat.reduceAdd, Bool.and_self, Bool.and_true, and_true, true_and, numF] <;> try simp)))⟩
  ·(refine Y_go 600 ?_; dsimp only [zq9y, t117n3, T117n3, zq9r, zq9q, Y_k, zq50, zq8o, zq6n, Nat.reduceBEq, zq6l, zq6k, zq8p, zq6q, zq04, zq92, zq9b, zq0i, zq9e, YK, zq8t, zq9i, normF, zq6m, zq87, zq88, zq86, zq8c, t117n2, T117n2, zq9s, zq6h, zq8x, YC, zq9p, t117n1, T117n1, zq9t, zq4u, zq5r, zq06, zq3m, zq5e, List.length_cons, List.length_nil, Nat.reduceAdd, List.map, zq6p, List.cons_append, List.nil_append, zq5d, zq7t, zq9u, popTo, zq6i, YP, t117n4, T117n4, zq5c, zq1o, nth, zq1k, dropL, takeL, zq19, zq17, zq8l, zq73, zq8m, zq8k, zq0a, zq1x, zq1t, zq1r, splice, setn, zq8s, zq8a, zq9x])
   refine ⟨fun _ => ⟨⟨by decide, by decide⟩, [.val (.bool o3.isSome), .val (.int .u64 (o3.getD 0))], rfl, fun g2 => ?_⟩, fun h => absurd h (by decide)⟩
   dsimp only [List.length_cons, List.length_nil, Nat.reduceAdd, Nat.reduceBEq, zq8l, zq7g, zq8m, zq73, zq8k, zq0a, zq1x, nth, zq1t, dropL, takeL, zq1r, splice, setn, YK, zq8s, zq9i, normF, zq6n, zq6l, zq6m, zq6k, zq89, zq87, zq88, zq8c, zq86, zq9y, t117n0, T117n0, zq9q, Y_k, zq4u, zq8o, zq8t, zq5a, zq14, zq5c, zq1o, zq1k, zq19, zq18, zq59, zq06, zq10, zq5d, zq7u]
   rw [show (0 + ((3 : Nat) : Int).toNat * 1) = 3 from rfl]
   dsimp only [dropL, takeL, zq1r, splice, setn, YK, zq8s, zq9i, normF, zq6n, Nat.reduceBEq, zq6l, zq6m, zq6k, zq89, zq87, zq88, zq8c, zq86, zqa1, zq9q, Y_k, zq4w, zq8o, zq8p, zq6q, zq04, zq92, zq9b, zq0e, zq8t, zq4u, zqa2]
   exact ⟨⟨by decide, by decide⟩, ((3 + 1 : Nat) : Int), ArOk.to (by decide) (by decide) (by decide), lend_rule fun a W rep => again (3 + 1) (by decide) (by decide) a W (rep.le (by (simp only [setn, List.nil_append, List.cons_append, leF, leH_nil, leH_cons, leF_nil, lk, scp, scpL, scpO, resF, resH, resO, resV, resVL, nth, Nat.reduceBEq, Nat.reduceLT, decide_true, decide_false, List.length, List.length_cons, List.length_nil, Nat.reduceAdd, Bool.and_self, Bool.and_true, and_true, true_and, numF] <;> try simp)) (by (simp only [setn, List.nil_append, List.cons_append, leF, leH_nil, leH_cons, leF_nil, lk, scp, scpL, scpO, resF, resH, resO, resV, resVL, nth, Nat.reduceBEq, Nat.reduceLT, decide_true, decide_false, List.length, List.length_cons, List.length_nil, Nat.reduceAdd, Bool.and_self, Bool.and_true, and_true, true_and, numF] <;> try simp)))⟩
  ·(refine Y_go 600 ?_; dsimp only [zq9y, t117n3, T117n3, zq9r, zq9q, Y_k, zq50, zq8o, zq6n, Nat.reduceBEq, zq6l, zq6k, zq8p, zq6q, zq04, zq92, zq9b, zq0i, zq9e, YK, zq8t, zq9i, normF, zq6m, zq87, zq88, zq86, zq8c, t117n2, T117n2, zq9s, zq6h, zq8x, YC, zq9p, t117n1, T117n1, zq9t, zq4u, zq5r, zq06, zq3m, zq5e, List.length_cons, List.length_nil, Nat.reduceAdd, List.map, zq6p, List.cons_append, List.nil_append, zq5d, zq7t, zq9u, popTo, zq6i, YP, t117n4, T117n4, zq5c, zq1o, nth, zq1k, dropL, takeL, zq19, zq17, zq8l, zq73, zq8m, zq8k, zq0a, zq1x, zq1t, zq1r, splice, setn, zq8s, zq8a, zq9x])
   refine ⟨fun _ => ⟨⟨by decide, by decide⟩, [.val (.bool o4.isSome), .val (.int .u64 (o4.getD 0))], rfl, fun g2 => ?_⟩, fun h => absurd h (by decide)⟩
   dsimp only [List.length_cons, List.length_nil, Nat.reduceAdd, Nat.reduceBEq, zq8l, zq7g, zq8m, zq73, zq8k, zq0a, zq1x, nth, zq1t, dropL, takeL, zq1r, splice, setn, YK, zq8s, zq9i, normF, zq6n, zq6l, zq6m, zq6k, zq89, zq87, zq88, zq8c, zq86, zq9y, t117n0, T117n0, zq9q, Y_k, zq4u, zq8o, zq8t, zq5a, zq14, zq5c, zq1o, zq1k, zq19, zq18, zq59, zq06, zq10, zq5d, zq7u]
   rw [show (0 + ((4 : Nat) : Int).toNat * 1) = 4 from rfl]
   dsimp only [dropL, takeL, zq1r, splice, setn, YK, zq8s, zq9i, normF, zq6n, Nat.reduceBEq, zq6l, zq6m, zq6k, zq89, zq87, zq88, zq8c, zq86, zqa1, zq9q, Y_k, zq4w, zq8o, zq8p, zq6q, zq04, zq92, zq9b, zq0e, zq8t, zq4u, zqa2]
   exact ⟨⟨by decide, by decide⟩, ((4 + 1 : Nat) : Int), ArOk.to (by decide) (by decide) (by decide), lend_rule fun a W rep => again (4 + 1) (by decide) (by decide) a W (rep.le (by (simp only [setn, List.nil_append, List.cons_append, leF, leH_nil, leH_cons, leF_nil, lk, scp, scpL, scpO, resF, resH, resO, resV, resVL, nth, Nat.reduceBEq, Nat.reduceLT, decide_true, decide_false, List.length, List.length_cons, List.length_nil, Nat.reduceAdd, Bool.and_self, Bool.and_true, and_true, true_and, numF] <;> try simp)) (by (simp only [setn, List.nil_append, List.cons_append, leF, leH_nil, leH_cons, leF_nil, lk, scp, scpL, scpO, resF, resH, resO, resV, resVL, nth, Nat.reduceBEq, Nat.reduceLT, decide_true, decide_false, List.length, List.length_cons, List.length_nil, Nat.reduceAdd, Bool.and_self, Bool.and_true, and_true, true_and, numF] <;> try simp)))⟩
  ·(refine Y_go 600 ?_; dsimp only [zq9y, t117n3, T117n3, zq9r, zq9q, Y_k, zq50, zq8o, zq6n, Nat.reduceBEq, zq6l, zq6k, zq8p, zq6q, zq04, zq92, zq9b, zq0i, zq9e, YK, zq8t, zq9i, normF, zq6m, zq87, zq88, zq86, zq8c, t117n2, T117n2, zq9s, zq6h, zq8x, YC, zq9p, t117n1, T117n1, zq9t, zq4u, zq5r, zq06, zq3m, zq5e, List.length_cons, List.length_nil, Nat.reduceAdd, List.map, zq6p, List.cons_append, List.nil_append, zq5d, zq7t, zq9u, popTo, zq6i, YP, t117n4, T117n4, zq5c, zq1o, nth, zq1k, dropL, takeL, zq19, zq17, zq8l, zq73, zq8m, zq8k, zq0a, zq1x, zq1t, zq1r, splice, setn, zq8s, zq8a, zq9x])
   refine ⟨fun _ => ⟨⟨by decide, by decide⟩, [.val (.bool o5.isSome), .val (.int .u64 (o5.getD 0))], rfl, fun g2 => ?_⟩, fun h => absurd h (by decide)⟩
   dsimp only [List.length_cons, List.length_nil, Nat.reduceAdd, Nat.reduceBEq, zq8l, zq7g, zq8m, zq73, zq8k, zq0a, zq1x, nth, zq1t, dropL, takeL, zq1r, splice, setn, YK, zq8s, zq9i, normF, zq6n, zq6l, zq6m, zq6k, zq89, zq87, zq88, zq8c, zq86, zq9y, t117n0, T117n0, zq9q, Y_k, zq4u, zq8o, zq8t, zq5a, zq14, zq5c, zq1o, zq1k, zq19, zq18, zq59, zq06, zq10, zq5d, zq7u]
   rw [show (0 + ((5 : Nat) : Int).toNat * 1) = 5 from rfl]
   dsimp only [dropL, takeL, zq1r, splice, setn, YK, zq8s, zq9i, normF, zq6n, Nat.reduceBEq, zq6l, zq6m, zq6k, zq89, zq87, zq88, zq8c, zq86, zqa1, zq9q, Y_k, zq4w, zq8o, zq8p, zq6q, zq04, zq92, zq9b, zq0e, zq8t, zq4u, zqa2]
   exact ⟨⟨by decide, by decide⟩, ((5 + 1 : Nat) : Int), ArOk.to (by decide) (by decide) (by decide), lend_rule fun a W rep => again (5 + 1) (by decide) (by decide) a W (rep.le (by (simp only [setn, List.nil_append, List.cons_append, leF, leH_nil, leH_cons, leF_nil, lk, scp, scpL, scpO, resF, resH, resO, resV, resVL, nth, Nat.reduceBEq, Nat.reduceLT, decide_true, decide_false, List.length, List.length_cons, List.length_nil, Nat.reduceAdd, Bool.and_self, Bool.and_true, and_true, true_and, numF] <;> try simp)) (by (simp only [setn, List.nil_append, List.cons_append, leF, leH_nil, leH_cons, leF_nil, lk, scp, scpL, scpO, resF, resH, resO, resV, resVL, nth, Nat.reduceBEq, Nat.reduceLT, decide_true, decide_false, List.length, List.length_cons, List.length_nil, Nat.reduceAdd, Bool.and_self, Bool.and_true, and_true, true_and, numF] <;> try simp)))⟩
  ·(refine Y_go 600 ?_; dsimp only [zq9y, t117n3, T117n3, zq9r, zq9q, Y_k, zq50, zq8o, zq6n, Nat.reduceBEq, zq6l, zq6k, zq8p, zq6q, zq04, zq92, zq9b, zq0i, zq9e, YK, zq8t, zq9i, normF, zq6m, zq87, zq88, zq86, zq8c, t117n2, T117n2, zq9s, zq6h, zq8x, YC, zq9p, t117n1, T117n1, zq9t, zq4u, zq5r, zq06, zq3m, zq5e, List.length_cons, List.length_nil, Nat.reduceAdd, List.map, zq6p, List.cons_append, List.nil_append, zq5d, zq7t, zq9u, popTo, zq6i, YP, t117n4, T117n4, zq5c, zq1o, nth, zq1k, dropL, takeL, zq19, zq17, zq8l, zq73, zq8m, zq8k, zq0a, zq1x, zq1t, zq1r, splice, setn, zq8s, zq8a, zq9x])
   refine ⟨fun _ => ⟨⟨by decide, by decide⟩, [.val (.bool o6.isSome), .val (.int .u64 (o6.getD 0))], rfl, fun g2 => ?_⟩, fun h => absurd h (by decide)⟩
   dsimp only [List.length_cons, List.length_nil, Nat.reduceAdd, Nat.reduceBEq, zq8l, zq7g, zq8m, zq73, zq8k, zq0a, zq1x, nth, zq1t, dropL, takeL, zq1r, splice, setn, YK, zq8s, zq9i, normF, zq6n, zq6l, zq6m, zq6k, zq89, zq87, zq88, zq8c, zq86, zq9y, t117n0, T117n0, zq9q, Y_k, zq4u, zq8o, zq8t, zq5a, zq14, zq5c, zq1o, zq1k, zq19, zq18, zq59, zq06, zq10, zq5d, zq7u]
   rw [show (0 + ((6 : Nat) : Int).toNat * 1) = 6 from rfl]
   dsimp only [dropL, takeL, zq1r, splice, setn, YK, zq8s, zq9i, normF, zq6n, Nat.reduceBEq, zq6l, zq6m, zq6k, zq89, zq87, zq88, zq8c, zq86, zqa1, zq9q, Y_k, zq4w, zq8o, zq8p, zq6q, zq04, zq92, zq9b, zq0e, zq8t, zq4u, zqa2]
   exact ⟨⟨by decide, by decide⟩, ((6 + 1 : Nat) : Int), ArOk.to (by decide) (by decide) (by decide), lend_rule fun a W rep => again (6 + 1) (by decide) (by decide) a W (rep.le (by (simp only [setn, List.nil_append, List.cons_append, leF, leH_nil, leH_cons, leF_nil, lk, scp, scpL, scpO, resF, resH, resO, resV, resVL, nth, Nat.reduceBEq, Nat.reduceLT, decide_true, decide_false, List.length, List.length_cons, List.length_nil, Nat.reduceAdd, Bool.and_self, Bool.and_true, and_true, true_and, numF] <;> try simp)) (by (simp only [setn, List.nil_append, List.cons_append, leF, leH_nil, leH_cons, leF_nil, lk, scp, scpL, scpO, resF, resH, resO, resV, resVL, nth, Nat.reduceBEq, Nat.reduceLT, decide_true, decide_false, List.length, List.length_cons, List.length_nil, Nat.reduceAdd, Bool.and_self, Bool.and_true, and_true, true_and, numF] <;> try simp)))⟩
  ·(refine Y_go 600 ?_; dsimp only [zq9y, t117n3, T117n3, zq9r, zq9q, Y_k, zq50, zq8o, zq6n, Nat.reduceBEq, zq6l, zq6k, zq8p, zq6q, zq04, zq92, zq9b, zq0i, zq9e, YK, zq8t, zq9i, normF, zq6m, zq87, zq88, zq86, zq8c, t117n2, T117n2, zq9s, zq6h, zq8x, YC, zq9p, t117n1, T117n1, zq9t, zq4u, zq5r, zq06, zq3m, zq5e, List.length_cons, List.length_nil, Nat.reduceAdd, List.map, zq6p, List.cons_append, List.nil_append, zq5d, zq7t, zq9u, popTo, zq6i, YP, t117n4, T117n4, zq5c, zq1o, nth, zq1k, dropL, takeL, zq19, zq17, zq8l, zq73, zq8m, zq8k, zq0a, zq1x, zq1t, zq1r, splice, setn, zq8s, zq8a, zq9x])
   refine ⟨fun _ => ⟨⟨by decide, by decide⟩, [.val (.bool o7.isSome), .val (.int .u64 (o7.getD 0))], rfl, fun g2 => ?_⟩, fun h => absurd h (by decide)⟩
   dsimp only [List.length_cons, List.length_nil, Nat.reduceAdd, Nat.reduceBEq, zq8l, zq7g, zq8m, zq73, zq8k, zq0a, zq1x, nth, zq1t, dropL, takeL, zq1r, splice, setn, YK, zq8s, zq9i, normF, zq6n, zq6l, zq6m, zq6k, zq89, zq87, zq88, zq8c, zq86, zq9y, t117n0, T117n0, zq9q, Y_k, zq4u, zq8o, zq8t, zq5a, zq14, zq5c, zq1o, zq1k, zq19, zq18, zq59, zq06, zq10, zq5d, zq7u]
   rw [show (0 + ((7 : Nat) : Int).toNat * 1) = 7 from rfl]
   dsimp only [dropL, takeL, zq1r, splice, setn, YK, zq8s, zq9i, normF, zq6n, Nat.reduceBEq, zq6l, zq6m, zq6k, zq89, zq87, zq88, zq8c, zq86, zqa1, zq9q, Y_k, zq4w, zq8o, zq8p, zq6q, zq04, zq92, zq9b, zq0e, zq8t, zq4u, zqa2]
   exact ⟨⟨by decide, by decide⟩, ((7 + 1 : Nat) : Int), ArOk.to (by decide) (by decide) (by decide), lend_rule fun a W rep => again (7 + 1) (by decide) (by decide) a W (rep.le (by (simp only [setn, List.nil_append, List.cons_append, leF, leH_nil, leH_cons, leF_nil, lk, scp, scpL, scpO, resF, resH, resO, resV, resVL, nth, Nat.reduceBEq, Nat.reduceLT, decide_true, decide_false, List.length, List.length_cons, List.length_nil, Nat.reduceAdd, Bool.and_self, Bool.and_true, and_true, true_and, numF] <;> try simp)) (by (simp only [setn, List.nil_append, List.cons_append, leF, leH_nil, leH_cons, leF_nil, lk, scp, scpL, scpO, resF, resH, resO, resV, resVL, nth, Nat.reduceBEq, Nat.reduceLT, decide_true, decide_false, List.length, List.length_cons, List.length_nil, Nat.reduceAdd, Bool.and_self, Bool.and_true, and_true, true_and, numF] <;> try simp)))⟩
  ·(refine Y_go 600 ?_; dsimp only [zq9y, t117n3, T117n3, zq9r, zq9q, Y_k, zq50, zq8o, zq6n, Nat.reduceBEq, zq6l, zq6k, zq8p, zq6q, zq04, zq92, zq9b, zq0i, zq9e, YK, zq8t, zq9i, normF, zq6m, zq87, zq88, zq86, zq8c, t117n2, T117n2, zq9s, zq6h, zq8x, YC, zq9p, t117n1, T117n1, zq9t, zq4u, zq5r, zq06, zq3m, zq5e, List.length_cons, List.length_nil, Nat.reduceAdd, List.map, zq6p, List.cons_append, List.nil_append, zq5d, zq7t, zq9u, popTo, zq6i, YP, t117n4, T117n4, zq5c, zq1o, nth, zq1k, dropL, takeL, zq19, zq17, zq8l, zq73, zq8m, zq8k, zq0a, zq1x, zq1t, zq1r, splice, setn, zq8s, zq8a, zq9x])
   refine ⟨fun h => absurd h (by decide), fun _ => ?_⟩
   exact ret_rv (vs := [.agg ((rgO [o0, o1, o2, o3, o4, o5, o6, o7]).map uV).toArray]) r117 rfl rfl fun W hW => hR _ _ ⟨rfl, hW.fresh'⟩
end Go.Proofs.YtlbiogokpadaoaaGreatDoor
namespace Go.Proofs.YtlbiogokpadaoaaGreatDoor
open Go Go.Sx Go.Isa Go.Lint
set_option maxRecDepth 100000
theorem splice_get (xs : List Value) (off : Nat) (us : List Value) (h : off + us.length ≤ xs.length) (j : Nat) : (splice xs off us)[j]? = if off ≤ j ∧ j < off + us.length then us[j - off]? else xs[j]? := by
 induction us generalizing xs off with
 | nil => 
  rw [if_neg (by simp only [List.length_nil]; omega)]; rfl
 | cons v vs ih =>
  simp only [List.length_cons] at h ⊢
  show (splice (setn xs off v) (off + 1) vs)[j]? = _
  rw [ih (setn xs off v) (off + 1) (by rw [setn_eq, List.length_set]; omega), setn_eq, List.getElem?_set]
  by_cases h1 : off = j
  ·subst h1
   rw [if_neg (by omega), if_pos rfl, if_pos (by omega), if_pos ⟨by omega, by omega⟩, Nat.sub_self]; rfl
  ·by_cases h2 : off + 1 ≤ j ∧ j < off + 1 + vs.length
   ·rw [if_pos h2, if_pos ⟨by omega, by omega⟩]
    have : j - off = (j - (off + 1)) + 1 := by omega
    rw [this]; rfl
   ·rw [if_neg h2, if_neg h1, if_neg (by omega)]
theorem knV_set {s : List (Option Int)} {i : Nat} {o : Option Int} (h : i < s.length) : splice (knV s) (i * 2) (knC o) = knV (s.set i o) := by
 apply List.ext_getElem?
 intro j
 rw [splice_get _ _ _ (by rw [knV_len]; simp [knC]; omega)]
 have hc : (knC o).length = 2 := rfl
 rw [hc]
 rcases Nat.lt_or_ge j (s.length * 2) with hj | hj
 ·obtain ⟨q, r, hr, rfl⟩ : ∃ q r, r < 2 ∧ j = q * 2 + r := ⟨j / 2, j % 2, Nat.mod_lt _ (by omega), by omega⟩
  have hq : q < s.length := by omega
  have hqe : s[q]? = some s[q] := List.getElem?_eq_getElem hq
  by_cases e : i = q
  ·subst e
   have h2 : (s.set i o)[i]? = some o := by rw [List.getElem?_set]; simp [h]
   rw [if_pos ⟨by omega, by omega⟩, knV_get h2 hr]
   congr 1; omega
  ·have h2 : (s.set i o)[q]? = some s[q] := by rw [List.getElem?_set, if_neg e]; exact hqe
   rw [if_neg (by omega), knV_get h2 hr, knV_get hqe hr]
 ·rw [if_neg (by omega), List.getElem?_eq_none (by rw [knV_len]; exact hj), List.getElem?_eq_none (by rw [knV_len, List.length_set]; exact hj)]
theorem goK_brG (x : In) : (goK x == 2) = brG x := by
 unfold goK brG
 by_cases h : legalB x = true ∧ 0 ≤ x.imm ∧ x.imm ≤ 1024
 ·rw [if_pos h, h.1, decide_eq_true h.2.1, decide_eq_true h.2.2]
  by_cases h1 : x.op = 13
  ·rw [if_pos h1, h1]; rfl
  ·rw [if_neg h1]
   by_cases h2 : 14 ≤ x.op ∧ x.op ≤ 16
   ·rw [if_pos h2, decide_eq_true h2.1, decide_eq_true h2.2]; rfl
   ·rw [if_neg h2]
    have : (decide (14 ≤ x.op) && decide (x.op ≤ 16)) = false := by
     rw [Bool.and_eq_false_iff]; simp; omega
    rw [this]; rfl
 ·rw [if_neg h]
  have : (legalB x && (decide (0 ≤ x.imm) && decide (x.imm ≤ 1024))) = false := by
   cases hl : legalB x with
   | false => rfl
   | true =>
    rw [Bool.true_and, Bool.and_eq_false_iff]; simp
    rw [hl] at h; simp at h; omega
  rw [this]; rfl
theorem do_isU {x : In} {r : List Int} {pc : Int} (hr : ∀ n ∈ r, isU n) (hop : 2 ≤ x.op ∧ x.op ≤ 10) : isU (doB x r pc).value := by
 have hz : isU 0 := by unfold isU; omega
 have hrg : ∀ n, isU (rg r n) := by
  intro n
  unfold rg
  rw [List.getD_eq_getElem?_getD]
  cases h : r[(n % 8).toNat]? with
  | none => exact hz
  | some v => exact hr _ (List.mem_of_getElem? h)
 have hw : ∀ n, isU (w64 n) := fun n => by unfold isU w64; omega
 have hsh : ∀ a : Int, ∀ k : Nat, isU a → isU (a / 2 ^ k) := fun a k h => by
  unfold isU at *
  have hp : (0 : Int) < 2 ^ k := Int.pow_pos (by omega)
  refine ⟨Int.ediv_nonneg h.1 (Int.le_of_lt hp), ?_⟩
  have := Int.ediv_le_self (2 ^ k) h.1
  omega
 unfold doB
 split
 ·have h : x.op = 2 ∨ x.op = 3 ∨ x.op = 4 ∨ x.op = 5 ∨ x.op = 6 ∨ x.op = 7 ∨ x.op = 8 ∨ x.op = 9 ∨ x.op = 10 := by omega
  unfold doE
  rcases h with h | h | h | h | h | h | h | h | h <;> simp only [h] <;> simp <;> first | exact hw _ | exact hrg _ | exact hsh _ _ (hrg _)
 ·exact hz
theorem conv_sgn {v : Int} (h : isU v) : ConvOk .i64 v (sgnU v) := by
 unfold isU at h
 show _ = IntKind.wrap .i64 v
 have e : IntKind.wrap .i64 v = (v + 9223372036854775808) % 18446744073709551616 - 9223372036854775808 := by
  simp [IntKind.wrap, IntKind.bits, IntKind.signed]
  split <;> omega
 rw [e]; unfold sgnU
 split <;> omega
theorem knV_st {s : List (Option Int)} {i : Nat} {b : Bool} {v : Int} {o : Option Int} (h : i < s.length) (ho : knC o = [.bool b, .int .u64 v]) : setn (setn (knV s) (0 + i * 2) (.bool b)) (0 + i * 2 + 1) (.int .u64 v) = knV (s.set i o) := by
 rw [← knV_set h, ho, Nat.zero_add]; rfl
theorem rgO_U {s : List (Option Int)} (h : stOk s) : ∀ n ∈ rgO s, isU n := by
 intro n hn
 unfold rgO at hn
 obtain ⟨o, ho, rfl⟩ := List.mem_map.1 hn
 cases o with
 | none => simp [isU]
 | some v => exact h.2 _ ho v rfl
theorem fold83 {E0 : Env} {W : World} (x : In) (s : List (Option Int)) (p : Nat) (g : Nat) (hp : p < 1024) (hs : stOk s) (hG : RowE E0 (some ⟨0, 0, none⟩) shL) (hW : HeapOk E0 [.row g 126 (knV s)] W) :
  CallsV Tryz.prog 83 [.pointer (some ⟨g, 0, none⟩), In.val x, .int .i64 (p : Int)] W fun v W' => v = In.val (foldI x s p).1 ∧ HeapOk E0 [.row g 126 (knV (foldI x s p).2)] W' := by
 obtain ⟨b0, N, st, nt0, mk0⟩ := E0
 refine calls_lent (keep := K83) (nt := 125) (svs := [.ptr 0 0, .agg (In.sv x), .val (.int .i64 (p : Int))]) Tryz.func83 x83 n83 (by simp) hW ?_ fun R hR => ?_
 ·simp only [IsL, Is, blk, nth]
  exact ⟨_, _, ⟨_, rfl, rfl⟩, ⟨_, _, In.is _ x, ⟨_, _, rfl, rfl, rfl⟩, rfl⟩, rfl⟩
 have fin : ∀ (F : List (Nat × SV)) (s' : List (Option Int)) (y : In) (r : List SO), denR (.row g 126 (knV s') :: r) F [RV.cell 6 5 true] = some [In.val y] → y = (foldI x s p).1 → s' = (foldI x s p).2 → RetG (cxOf Tryz.prog Tryz.f83 K83 T83 R) ⟨b0, N, st, 125, []⟩ { F := F, H := .row g 126 (knV s') :: r } := by
  intro F s' y r hd hy hs'
  subst hy; subst hs'
  refine ret_rv (vs := [In.val (foldI x s p).1]) r83 rfl hd fun W hW => hR _ _ ⟨rfl, ?_⟩
  have h1 : HeapOk ⟨b0, N, st, 125, []⟩ [.row g 126 (knV (foldI x s p).2)] W := HeapOk.pre (H' := [.row g 126 (knV (foldI x s p).2)]) (r := r) hW (by intro e he; simp only [List.mem_singleton] at he; subst he; rfl)
  exact HeapOk.env (E := ⟨b0, N, st, 125, []⟩) (E' := ⟨b0, N, st, nt0, mk0⟩) rfl rfl rfl h1
 have hGW : ∀ {H : List SO} (W : World), HeapOk ⟨b0, N, st, 125, []⟩ H W → ShAt W := fun W hW => hG.at (HeapOk.env (E := ⟨b0, N, st, 125, []⟩) (E' := ⟨b0, N, st, nt0, mk0⟩) rfl rfl rfl hW)
 (refine Y_go 600 ?_; dsimp only [X83, In.sv, numF, Nat.reduceAdd, zq9r, zq9q, Y_k, zq5f, zq8o, zq6n, Nat.reduceBEq, zq6l, zq6k, zq7t, List.length_cons, List.length_nil, zq8l, zq73, zq8m, zq8k, zq0a, zq1z, List.cons_append, List.nil_append, YK, zq8t, zq5e, List.map, zq6q, zq9i, normF, zq6m, zq86, zq8c, zq87, zq88, zq9y, t83n25, T83n25, zq5c, zq1o, nth, zq1k, dropL, takeL, zq19, zq17, zq9j])
 intro g1 g2
 cases hb : legalB x with
 | false =>
  have hf : foldI x s p = (x, s) := by unfold foldI; rw [hb]; rfl
  refine call_val (vs := [In.val x]) rfl (fun W hW => legal21 x W (hGW W hW)) fun v hv => ⟨.bf, by rw [hv, hb]; simp [Is], ?_⟩
  (refine Y_go 600 ?_; dsimp only [zq8t, Y_k, zq53, zq8o, zq6n, Nat.reduceBEq, zq6k, zq0n, YK, zq9i, normF, zq6l, zq6m, zq86, zq89, zq8c, zq87, zq88, zq9s, zq6f, YC, zq9y, t83n0, T83n0, zq9r, zq9q, zq5c, zq1o, nth, zq1k, List.length_cons, List.length_nil, Nat.reduceAdd, dropL, takeL, zq19, zq17, zq5d, zq7t, zq8l, zq73, zq8m, zq8k, zq0a, zq1x, zq1t, zq1r, splice, setn, zq8s, zq9x])
  exact fin _ s x _ rfl (by rw [hf]) (by rw [hf])
 | true =>
  refine call_val (vs := [In.val x]) rfl (fun W hW => legal21 x W (hGW W hW)) fun v hv => ⟨.bt, by rw [hv, hb]; simp [Is], ?_⟩
  (refine Y_go 600 ?_; dsimp only [zq8t, Y_k, zq53, zq8o, zq6n, Nat.reduceBEq, zq6k, zq0m, YK, zq9i, normF, zq6l, zq6m, zq86, zq8a, zq8c, zq87, zq88, zq9s, zq6g, YC, zq9p, zq9y, t83n24, T83n24, zq9r, zq9q, zq5c, zq1o, nth, zq1k, List.length_cons, List.length_nil, Nat.reduceAdd, dropL, takeL, zq19, zq17, zq9j])
  obtain ⟨la, lb, lc⟩ := legal_regs hb
  obtain ⟨o0, o1, o2, o3, o4, o5, o6, o7, rfl⟩ := st8 hs.1
  have hU := rgO_U hs
  have hGk : ∀ {H : List SO} (W : World), HeapOk ⟨b0, N, st, 125, []⟩ H W → ShAt W := hGW
  have hrow : ∀ {H : List SO} {W : World} {g3 : Nat} {a b : Int}, HeapOk ⟨b0, N, st, 125, []⟩ H W → nth H 3 = some (.cells g3 3 [.val (.int .i64 a), .val (.int .i64 b)]) → RowAt W (some ⟨g3, 0, none⟩) (isV [a, b]) := fun hW hi => hW.cellsAt hi rfl
  cases hbr : brG x with
  | true =>
   have hgk : (goK x == 2) = true := by rw [goK_brG, hbr]
   have hop : 14 ≤ x.op ∧ x.op ≤ 16 := by
    unfold brG at hbr
    simp only [Bool.and_eq_true, decide_eq_true_eq] at hbr
    exact hbr.2
   have la := la (.inr hop)
   have lb := lb (.inr hop)
   refine call_val (vs := [In.val x]) rfl (fun W hW => goes84 x W (hGW W hW)) fun v hv => ⟨.tup [.val (.bool (goK x == 1)), .bt], by rw [hv, hgk]; simp [Is, IsL], ?_⟩
   (refine Y_go 600 ?_; dsimp only [zq8t, Y_k, zq4u, zq8o, zq6n, Nat.reduceBEq, zq6k, YK, zq5j, zq2f, nth, zq2e, zq6l, zq9i, normF, zq6m, zq86, zq8a, zq89, zq8c, zq87, zq88, zq9y, t83n23, T83n23, zq9r, zq9q, zq5a, zq14, Nat.reduceAdd, zq5c, zq1o, zq1k, List.length_cons, List.length_nil, dropL, takeL, zq19, zq18, zq5h, List.map, zq6q, repL, List.cons_append, List.nil_append, zq23, Nat.reduceMul, zq7u, zq73, zq0a, zq20, splice, setn, zq24, zq26, zq8e, t83n22, T83n22, zq9t, zq9s, zq6f, YC, t83n3, T83n3, zq5i, zq29, zq1l, zq1d, zq1c, zq1b, zq17, zq9j])
   intro g3
   refine ⟨_, rfl, _, rfl, _, rfl, _, rfl, _, rfl, _, rfl, _, rfl, _, rfl, _, rfl, _, rfl, _, rfl, _, rfl, _, rfl, _, rfl, _, rfl, _, rfl, fun g4 => ?_⟩
   have hfo : foldI x [o0, o1, o2, o3, o4, o5, o6, o7] p = if knO [o0, o1, o2, o3, o4, o5, o6, o7] x.a && knO [o0, o1, o2, o3, o4, o5, o6, o7] x.b then (⟨13, 0, 0, 0, (doB x (rgO [o0, o1, o2, o3, o4, o5, o6, o7]) p).next⟩, [o0, o1, o2, o3, o4, o5, o6, o7]) else (x, [o0, o1, o2, o3, o4, o5, o6, o7]) := by
    unfold foldI
    rw [hb, hbr, if_neg (by simp), if_pos rfl]
   have hall : ([x.a, x.b] : List Int).all (knO [o0, o1, o2, o3, o4, o5, o6, o7]) = (knO [o0, o1, o2, o3, o4, o5, o6, o7] x.a && knO [o0, o1, o2, o3, o4, o5, o6, o7] x.b) := by simp
   cases hk : knO [o0, o1, o2, o3, o4, o5, o6, o7] x.a && knO [o0, o1, o2, o3, o4, o5, o6, o7] x.b with
   | false =>
    rw [hk, if_neg (by simp)] at hfo
    refine call_val (vs := [.agg (knV [o0, o1, o2, o3, o4, o5, o6, o7]).toArray, .slice (some ⟨g4, 0, none⟩) 2 2]) rfl (fun W hW => has116 [o0, o1, o2, o3, o4, o5, o6, o7] [x.a, x.b] (some ⟨g4, 0, none⟩) 2 W rfl (by simp) (by simp; omega) (hW.cellsAt (i := 4) rfl rfl)) fun v hv => ⟨.bf, by rw [hv, hall, hk]; simp [Is], ?_⟩
    (refine Y_go 600 ?_; dsimp only [zq8t, Y_k, zq53, zq8o, zq6n, Nat.reduceBEq, zq6k, zq0n, YK, zq9i, normF, zq6l, zq6m, zq86, zq89, zq8a, zq8e, zq8c, zq87, zq88, zq9s, zq6f, YC, zq9y, t83n1, T83n1, zq9r, zq9q, zq5c, zq1o, nth, zq1k, List.length_cons, List.length_nil, Nat.reduceAdd, dropL, takeL, zq19, zq17, zq5d, zq7t, zq8l, zq73, zq8m, zq8k, zq0a, zq1x, zq1t, zq1r, splice, setn, zq8s, zq9x])
    exact fin _ [o0, o1, o2, o3, o4, o5, o6, o7] x _ rfl (by rw [hfo]) (by rw [hfo])
   | true =>
    rw [hk, if_pos rfl] at hfo
    refine call_val (vs := [.agg (knV [o0, o1, o2, o3, o4, o5, o6, o7]).toArray, .slice (some ⟨g4, 0, none⟩) 2 2]) rfl (fun W hW => has116 [o0, o1, o2, o3, o4, o5, o6, o7] [x.a, x.b] (some ⟨g4, 0, none⟩) 2 W rfl (by simp) (by simp; omega) (hW.cellsAt (i := 4) rfl rfl)) fun v hv => ⟨.bt, by rw [hv, hall, hk]; simp [Is], ?_⟩
    (refine Y_go 600 ?_; dsimp only [zq8t, Y_k, zq53, zq8o, zq6n, Nat.reduceBEq, zq6k, zq0m, YK, zq9i, normF, zq6l, zq6m, zq86, zq8a, zq89, zq8e, zq8c, zq87, zq88, zq9s, zq6g, YC, zq9p, zq9y, t83n2, T83n2, zq9r, zq9q, zq4u, zq5i, zq29, zq5c, zq1o, nth, zq1k, List.length_cons, List.length_nil, Nat.reduceAdd, dropL, takeL, zq19, zq17, zq1l, zq1d, List.nil_append, zq1c, List.cons_append, zq1b, zq9j])
    refine ⟨_, rfl, _, rfl, _, rfl, _, rfl, _, rfl, _, rfl, _, rfl, _, rfl, _, rfl, _, rfl, _, rfl, _, rfl, _, rfl, _, rfl, _, rfl, _, rfl, ?_⟩
    refine call_val (vs := [.agg (knV [o0, o1, o2, o3, o4, o5, o6, o7]).toArray]) rfl (fun W hW => regs117 [o0, o1, o2, o3, o4, o5, o6, o7] W rfl) fun v hv => ⟨.agg [.val (.int .u64 (o0.getD 0)), .val (.int .u64 (o1.getD 0)), .val (.int .u64 (o2.getD 0)), .val (.int .u64 (o3.getD 0)), .val (.int .u64 (o4.getD 0)), .val (.int .u64 (o5.getD 0)), .val (.int .u64 (o6.getD 0)), .val (.int .u64 (o7.getD 0))], by rw [hv]; simp [Is, IsL, rgO, uV], ?_⟩
    (refine still_y (by dsimp only [zq8t, zq6n, Nat.reduceBEq, zq6l, zq6k, zq5c, zq8o, zq1o, nth, zq1k, List.length_cons, List.length_nil, Nat.reduceAdd, dropL, takeL, zq19, zq17]; exact ⟨rfl, det_of_den rfl⟩) ?_; refine Y_go 600 ?_; dsimp only [zq8t, zq9j])
    refine call_val (vs := [In.val x, .agg ((rgO [o0, o1, o2, o3, o4, o5, o6, o7]).map uV).toArray, .int .i64 (p : Int)]) rfl (fun W hW => do24 x (rgO [o0, o1, o2, o3, o4, o5, o6, o7]) p W (hGW W hW) rfl hU) fun v hv => ⟨Ef.sv (doB x (rgO [o0, o1, o2, o3, o4, o5, o6, o7]) p), by rw [hv]; exact Ef.is _ _, ?_⟩
    generalize doB x (rgO [o0, o1, o2, o3, o4, o5, o6, o7]) p = e at hfo
    simp only [Ef.sv]
    (refine Y_go 600 ?_; dsimp only [zq8t, Y_k, zq5b, zq8o, zq6n, Nat.reduceBEq, zq6k, zq1a, dropL, takeL, zq19, zq18, YK, zq5g, List.map, zq6q, zq21, zq8p, zq7u, zq73, zq0a, zq20, splice, setn, zq22, zq25, zq5d, zq6l, zq7t, List.length_cons, List.length_nil, Nat.reduceAdd, zq8l, zq8m, zq8k, zq1x, nth, zq1t, zq1r, zq8s, zq9i, normF, zq6m, zq86, zq8a, zq89, zq8e, zq8c, zq87, zq88, zq9x])
    exact fin _ [o0, o1, o2, o3, o4, o5, o6, o7] ⟨13, 0, 0, 0, e.next⟩ _ rfl (by rw [hfo]) (by rw [hfo])
  | false =>
   have hgk : (goK x == 2) = false := by rw [goK_brG, hbr]
   refine call_val (vs := [In.val x]) rfl (fun W hW => goes84 x W (hGW W hW)) fun v hv => ⟨.tup [.val (.bool (goK x == 1)), .bf], by rw [hv, hgk]; simp [Is, IsL], ?_⟩
   (refine Y_go 600 ?_; dsimp only [zq8t, Y_k, zq4u, zq8o, zq6n, Nat.reduceBEq, zq6k, YK, zq5j, zq2f, nth, zq2e, zq6l, zq9i, normF, zq6m, zq86, zq8a, zq8c, zq87, zq88, zq9y, t83n23, T83n23, zq9r, zq9q, zq5a, zq14, Nat.reduceAdd, zq5c, zq1o, zq1k, List.length_cons, List.length_nil, dropL, takeL, zq19, zq18, zq5h, List.map, zq6q, repL, List.cons_append, List.nil_append, zq23, Nat.reduceMul, zq7u, zq73, zq0a, zq20, splice, setn, zq24, zq26, zq8e, t83n22, T83n22, zq9t, zq9s, zq6g, YC, t83n12, T83n12, Nat.add_zero, zq50, zq8p, zq04, zq92, zq9b, zq0i, zq9c, zq6h, zq8x, t83n5, T83n5, zq5g, zq6p, zq22, zq25, zq5i, zq29, zq59, zq06, zq10, zq5d, zq7t, zq8l, zq7i, zq8m, zq8k, zq1x, zq1u, denL, den, zq1s, zq8s, zq89, t83n4, T83n4, zq17, zq1t, zq1r, zq9x, t83n11, T83n11, t83n10, T83n10, zq6u, zqa1, t83n21, T83n21, zq1l, zq1d, zq1c, zq1b, zq9j, t83n9, T83n9, t83n6, T83n6, zq5o, zq3a, zq39, zq37, zq3h, zq99, Int.reduceToNat, Nat.reduceSub, t83n8, T83n8, zq9e, Y_gk, zq6e, YS, zq6a, zq4v, zq6o, zq0b, zq6f, t83n7, T83n7, YR, zq6c, zq9g, zq0c, zq9p])
   intro g3
   have post : ∀ hb', hb' = foldK x [o0, o1, o2, o3, o4, o5, o6, o7] → 2 ≤ x.op → x.op ≤ 10 → G (cxOf Tryz.prog Tryz.f83 K83 T83 R) ⟨b0, N, st, 125, []⟩ [.ops [⟨some 84, none, .k (.not (.tmp 83))⟩], .code (.cond (.tmp 84) (.ref 14) .skip), .code (.ref 20)] { F := [(83, bsv hb'), (0, .ptr 0 0), (2, .val (.int .i64 (p : Int))), (4, .ptr 1 0), (6, .ptr 2 0)], H := [.row g 126 (knV [o0, o1, o2, o3, o4, o5, o6, o7]), .cells g1 41 [.val (.int .i64 x.op), .val (.int .i64 x.a), .val (.int .i64 x.b), .val (.int .i64 x.c), .val (.int .i64 x.imm)], .cells g2 41 [.val (.int .i64 0), .val (.int .i64 0), .val (.int .i64 0), .val (.int .i64 0), .val (.int .i64 0)], .cells g3 3 [.val (.int .i64 x.b), .val (.int .i64 x.c)]] } := by
    intro hb' hfk ho2 ho10
    have la := la (.inl ⟨ho2, by omega⟩)
    have hfo : foldI x [o0, o1, o2, o3, o4, o5, o6, o7] p = if foldK x [o0, o1, o2, o3, o4, o5, o6, o7] then (if x.op ≠ 2 ∧ smallU (doB x (rgO [o0, o1, o2, o3, o4, o5, o6, o7]) p).value = true then ⟨2, x.a, 0, 0, sgnU (doB x (rgO [o0, o1, o2, o3, o4, o5, o6, o7]) p).value⟩ else x, ([o0, o1, o2, o3, o4, o5, o6, o7] : List (Option Int)).set x.a.toNat (some (doB x (rgO [o0, o1, o2, o3, o4, o5, o6, o7]) p).value)) else (x, ([o0, o1, o2, o3, o4, o5, o6, o7] : List (Option Int)).set x.a.toNat none) := by
     unfold foldI
     rw [hb, hbr]
     rw [if_neg (by simp), if_neg (by simp), if_neg (by omega), if_neg (by omega)]
    have bda : (0 : Int) ≤ x.a ∧ x.a < ((8 : Nat) : Int) := ⟨la.1, la.2⟩
    have lba : 0 + x.a.toNat * 2 + 2 ≤ (knV [o0, o1, o2, o3, o4, o5, o6, o7]).length := by rw [knV_len]; simp only [List.length_cons, List.length_nil]; omega
    cases hb' with
    | false =>
     simp only [bsv]
     (refine Y_go 600 ?_; dsimp only [Y_k, zq53, zq8o, zq6n, Nat.reduceBEq, zq6k, zq0n, YK, zq8t, zq9i, normF, zq6l, zq6m, zq86, zq89, zq8c, zq87, zq9s, zq6f, YC, zq9y, t83n14, T83n14, zq9r, zq9q, zq4u, zq5a, zq14, Nat.reduceAdd, zq5c, zq1o, nth, zq1k, List.length_cons, List.length_nil, dropL, takeL, zq19, zq18, zq5g, List.map, zq6p, zq6q, zq22, zq25, zq5i, zq29, zq59, zq06, zq10, zq5d, zq7t, zq8l, zq7i, zq8m, zq73, zq8k, zq0a, zq1x, zq1u, denL, den, zq1s, splice, setn, zq8s, t83n13, T83n13, zq17, zq1t, zq1r, zq9x])
     rw [← hfk] at hfo
     refine ⟨bda, lba, ?_⟩
     have ek := knV_st (s := [o0, o1, o2, o3, o4, o5, o6, o7]) (i := x.a.toNat) (b := false) (v := 0) (o := none) (by simp; omega) rfl
     rw [ek]
     exact fin _ (([o0, o1, o2, o3, o4, o5, o6, o7] : List (Option Int)).set x.a.toNat none) x _ rfl (by rw [hfo]; rfl) (by rw [hfo]; rfl)
    | true =>
     simp only [bsv]
     (refine Y_go 600 ?_; dsimp only [Y_k, zq53, zq8o, zq6n, Nat.reduceBEq, zq6k, zq0m, YK, zq8t, zq9i, normF, zq6l, zq6m, zq86, zq8a, zq8c, zq87, zq9s, zq6g, YC, zq9p, zq9y, t83n20, T83n20, zq9r, zq9q, zq4u, zq5i, zq29, zq5c, zq1o, nth, zq1k, List.length_cons, List.length_nil, Nat.reduceAdd, dropL, takeL, zq19, zq17, zq1l, zq1d, List.nil_append, zq1c, List.cons_append, zq1b, zq9j])
     rw [← hfk] at hfo
     refine ⟨_, rfl, _, rfl, _, rfl, _, rfl, _, rfl, _, rfl, _, rfl, _, rfl, _, rfl, _, rfl, _, rfl, _, rfl, _, rfl, _, rfl, _, rfl, _, rfl, ?_⟩
     refine call_val (vs := [.agg (knV [o0, o1, o2, o3, o4, o5, o6, o7]).toArray]) rfl (fun W hW => regs117 [o0, o1, o2, o3, o4, o5, o6, o7] W rfl) fun v hv => ⟨.agg [.val (.int .u64 (o0.getD 0)), .val (.int .u64 (o1.getD 0)), .val (.int .u64 (o2.getD 0)), .val (.int .u64 (o3.getD 0)), .val (.int .u64 (o4.getD 0)), .val (.int .u64 (o5.getD 0)), .val (.int .u64 (o6.getD 0)), .val (.int .u64 (o7.getD 0))], by rw [hv]; simp [Is, IsL, rgO, uV], ?_⟩
     (refine still_y (by dsimp only [zq8t, zq6n, Nat.reduceBEq, zq6l, zq6k, zq5c, zq8o, zq1o, nth, zq1k, List.length_cons, List.length_nil, Nat.reduceAdd, dropL, takeL, zq19, zq17]; exact ⟨rfl, det_of_den rfl⟩) ?_; refine Y_go 600 ?_; dsimp only [zq8t, zq9j])
     have hvU := do_isU (x := x) (r := rgO [o0, o1, o2, o3, o4, o5, o6, o7]) (pc := (p : Int)) hU ⟨ho2, ho10⟩
     refine call_val (vs := [In.val x, .agg ((rgO [o0, o1, o2, o3, o4, o5, o6, o7]).map uV).toArray, .int .i64 (p : Int)]) rfl (fun W hW => do24 x (rgO [o0, o1, o2, o3, o4, o5, o6, o7]) p W (hGW W hW) rfl hU) fun v hv => ⟨Ef.sv (doB x (rgO [o0, o1, o2, o3, o4, o5, o6, o7]) p), by rw [hv]; exact Ef.is _ _, ?_⟩
     generalize doB x (rgO [o0, o1, o2, o3, o4, o5, o6, o7]) p = e at hvU hfo
     simp only [Ef.sv]
     (refine Y_go 600 ?_; dsimp only [zq8t, Y_k, zq5b, zq8o, zq6n, Nat.reduceBEq, zq6k, zq1a, dropL, takeL, zq19, zq18, YK, zq4u, zq9i, normF, zq6l, zq6m, zq86, zq8a, zq87, zq8c, zq9y, t83n19, T83n19, zq9r, zq9q, zq5a, zq14, Nat.reduceAdd, zq5c, zq1o, nth, zq1k, List.length_cons, List.length_nil, zq5g, List.map, zq6p, zq6q, zq21, zq8p, zq6o, zq7v, zq7h, zq0a, zq20, splice, setn, zq7u, zq73, zq22, zq25, zq5i, zq29, zq59, zq06, zq10, zq5d, zq7t, zq8l, zq8m, zq8k, zq1x, zq1u, denL, den, zq1s, zq8s, t83n18, T83n18, zq54, zq0p, t83n16, T83n16, Nat.add_zero, zq50, zq04, zq92, zq9b, zq0i, zq9d, Y_gk, zq6d, YR, zq69, zq9h, zq4v, zq0b, zq9f, zq9s, zq6h, zq8x, YC, t83n15, T83n15, zq1t, zq1r, zq89, zq9x, zq9p, t83n17, T83n17, zq17, YS, zq6b, zq0c, zq6g])
     refine ⟨bda, lba, sgnU e.value, conv_sgn hvU, ?_⟩
     rw [show setn (setn (knV [o0, o1, o2, o3, o4, o5, o6, o7]) (0 + x.a.toNat * 2) (.bool true)) (0 + x.a.toNat * 2 + 1) (.int .u64 e.value) = knV (([o0, o1, o2, o3, o4, o5, o6, o7] : List (Option Int)).set x.a.toNat (some e.value)) from knV_st (s := [o0, o1, o2, o3, o4, o5, o6, o7]) (i := x.a.toNat) (b := true) (v := e.value) (o := some e.value) (by simp; omega) rfl]
     have hsm : smallU e.value = (decide (sgnU e.value ≥ -2147483648) && decide (sgnU e.value ≤ 2147483647)) := by
      unfold isU at hvU
      unfold smallU sgnU
      rw [Bool.eq_iff_iff]
      simp only [Bool.or_eq_true, Bool.and_eq_true, decide_eq_true_eq]
      split <;> omega
     rw [if_pos rfl] at hfo
     refine ⟨fun hne => ⟨fun hge => ⟨fun hle => ?_, fun hle => ?_⟩, fun hge => ?_⟩, fun heq => ?_⟩
     ·exact fin _ (([o0, o1, o2, o3, o4, o5, o6, o7] : List (Option Int)).set x.a.toNat (some e.value)) ⟨2, x.a, 0, 0, sgnU e.value⟩ _ rfl (by rw [hfo]; exact (if_pos ⟨by simpa using hne, by rw [hsm, hge, hle]; rfl⟩).symm) (by rw [hfo])
     ·exact fin _ (([o0, o1, o2, o3, o4, o5, o6, o7] : List (Option Int)).set x.a.toNat (some e.value)) x _ rfl (by rw [hfo]; exact (if_neg (fun h => by have := h.2; rw [hsm, hle, Bool.and_false] at this; cases this)).symm) (by rw [hfo])
     ·exact fin _ (([o0, o1, o2, o3, o4, o5, o6, o7] : List (Option Int)).set x.a.toNat (some e.value)) x _ rfl (by rw [hfo]; exact (if_neg (fun h => by have := h.2; rw [hsm, hge, Bool.false_and] at this; cases this)).symm) (by rw [hfo])
     ·exact fin _ (([o0, o1, o2, o3, o4, o5, o6, o7] : List (Option Int)).set x.a.toNat (some e.value)) x _ rfl (by rw [hfo]; exact (if_neg (fun h => h.1 (by simpa using heq))).symm) (by rw [hfo])
   have foth : (x.op < 2 ∨ 10 < x.op) → x.op ≠ 11 → foldI x [o0, o1, o2, o3, o4, o5, o6, o7] p = (x, [o0, o1, o2, o3, o4, o5, o6, o7]) := fun h h2 => by
    unfold foldI
    rw [hb, hbr, if_neg (by simp), if_neg (by simp), if_neg h2, if_pos h]
   refine ⟨fun h11 => ?_, fun h11 => ⟨fun h2 => ?_, fun h2 => ⟨fun h3 => ?_, fun h3 => ⟨fun hlo => ?_, fun hlo => ⟨fun hhi => ?_, fun hhi => ?_⟩⟩⟩⟩⟩
   ·have h11 : x.op = 11 := by simpa using h11
    have la := la (.inl ⟨by omega, by omega⟩)
    have hfo : foldI x [o0, o1, o2, o3, o4, o5, o6, o7] p = (x, ([o0, o1, o2, o3, o4, o5, o6, o7] : List (Option Int)).set x.a.toNat none) := by
     unfold foldI
     rw [hb, hbr, if_neg (by simp), if_neg (by simp), if_pos h11]
    refine ⟨⟨la.1, la.2⟩, by rw [knV_len]; simp only [List.length_cons, List.length_nil]; omega, ?_⟩
    have ek := knV_st (s := [o0, o1, o2, o3, o4, o5, o6, o7]) (i := x.a.toNat) (b := false) (v := 0) (o := none) (by simp; omega) rfl
    rw [ek]
    exact fin _ (([o0, o1, o2, o3, o4, o5, o6, o7] : List (Option Int)).set x.a.toNat none) x _ rfl (by rw [hfo]) (by rw [hfo])
   ·have h2 : x.op = 2 := by simpa using h2
    refine ⟨_, rfl, _, rfl, _, rfl, _, rfl, _, rfl, _, rfl, _, rfl, _, rfl, _, rfl, _, rfl, _, rfl, _, rfl, _, rfl, _, rfl, _, rfl, _, rfl, ?_⟩
    refine call_val (vs := [.agg (knV [o0, o1, o2, o3, o4, o5, o6, o7]).toArray, .slice none 0 0]) rfl (fun W hW => has116 [o0, o1, o2, o3, o4, o5, o6, o7] [] none 0 W rfl (by simp) (by simp) (fun j u h => by simp [isV] at h)) fun v hv => ⟨bsv (foldK x [o0, o1, o2, o3, o4, o5, o6, o7]), by rw [hv, show foldK x [o0, o1, o2, o3, o4, o5, o6, o7] = ([] : List Int).all (knO [o0, o1, o2, o3, o4, o5, o6, o7]) from by unfold foldK; rw [if_pos h2]; rfl]; cases ([] : List Int).all (knO [o0, o1, o2, o3, o4, o5, o6, o7]) <;> simp [bsv, Is], fun a W rep => ?_⟩
    simp only [putF] at rep
    have hq := fun q (hq : q = foldK x [o0, o1, o2, o3, o4, o5, o6, o7]) => post q hq (by omega) (by omega)
    generalize foldK x [o0, o1, o2, o3, o4, o5, o6, o7] = q at rep hq
    cases q <;> exact hq _ rfl a W (rep.le (by simp only [bsv]; (simp only [setn, List.nil_append, List.cons_append, leF, leH_nil, leH_cons, leF_nil, lk, scp, scpL, scpO, resF, resH, resO, resV, resVL, nth, Nat.reduceBEq, Nat.reduceLT, decide_true, decide_false, List.length, List.length_cons, List.length_nil, Nat.reduceAdd, Bool.and_self, Bool.and_true, and_true, true_and, numF] <;> try simp)) (by (simp only [setn, List.nil_append, List.cons_append, leF, leH_nil, leH_cons, leF_nil, lk, scp, scpL, scpO, resF, resH, resO, resV, resVL, nth, Nat.reduceBEq, Nat.reduceLT, decide_true, decide_false, List.length, List.length_cons, List.length_nil, Nat.reduceAdd, Bool.and_self, Bool.and_true, and_true, true_and, numF] <;> try simp)))
   ·have h3 : x.op = 3 := by simpa using h3
    have lb := lb (.inl ⟨by omega, by omega⟩)
    refine ⟨⟨by decide, by decide, by decide⟩, _, rfl, _, rfl, _, rfl, _, rfl, _, rfl, _, rfl, _, rfl, _, rfl, _, rfl, _, rfl, _, rfl, _, rfl, _, rfl, _, rfl, _, rfl, _, rfl, ?_⟩
    refine call_val (vs := [.agg (knV [o0, o1, o2, o3, o4, o5, o6, o7]).toArray, .slice (some ⟨g3, 0, none⟩) 1 2]) rfl (fun W hW => has116 [o0, o1, o2, o3, o4, o5, o6, o7] [x.b] (some ⟨g3, 0, none⟩) 2 W rfl (by simp) (by simp; omega) (RowAt.pre (ys := isV [x.c]) (hrow hW rfl))) fun v hv => ⟨bsv (foldK x [o0, o1, o2, o3, o4, o5, o6, o7]), by rw [hv, show foldK x [o0, o1, o2, o3, o4, o5, o6, o7] = ([x.b] : List Int).all (knO [o0, o1, o2, o3, o4, o5, o6, o7]) from by unfold foldK; rw [if_neg (by omega), if_pos h3]; simp]; cases ([x.b] : List Int).all (knO [o0, o1, o2, o3, o4, o5, o6, o7]) <;> simp [bsv, Is], fun a W rep => ?_⟩
    simp only [putF] at rep
    have hq := fun q (hq : q = foldK x [o0, o1, o2, o3, o4, o5, o6, o7]) => post q hq (by omega) (by omega)
    generalize foldK x [o0, o1, o2, o3, o4, o5, o6, o7] = q at rep hq
    cases q <;> exact hq _ rfl a W (rep.le (by simp only [bsv]; (simp only [setn, List.nil_append, List.cons_append, leF, leH_nil, leH_cons, leF_nil, lk, scp, scpL, scpO, resF, resH, resO, resV, resVL, nth, Nat.reduceBEq, Nat.reduceLT, decide_true, decide_false, List.length, List.length_cons, List.length_nil, Nat.reduceAdd, Bool.and_self, Bool.and_true, and_true, true_and, numF] <;> try simp)) (by (simp only [setn, List.nil_append, List.cons_append, leF, leH_nil, leH_cons, leF_nil, lk, scp, scpL, scpO, resF, resH, resO, resV, resVL, nth, Nat.reduceBEq, Nat.reduceLT, decide_true, decide_false, List.length, List.length_cons, List.length_nil, Nat.reduceAdd, Bool.and_self, Bool.and_true, and_true, true_and, numF] <;> try simp)))
   ·have hlo := of_decide_eq_true hlo
    have h11 : x.op ≠ 11 := by simpa using h11
    exact fin _ [o0, o1, o2, o3, o4, o5, o6, o7] x _ rfl (by rw [foth (.inl hlo) h11]) (by rw [foth (.inl hlo) h11])
   ·have hhi : 10 < x.op := of_decide_eq_true hhi
    have h11 : x.op ≠ 11 := by simpa using h11
    exact fin _ [o0, o1, o2, o3, o4, o5, o6, o7] x _ rfl (by rw [foth (.inr hhi) h11]) (by rw [foth (.inr hhi) h11])
   ·have h2 : x.op ≠ 2 := by simpa using h2
    have h3 : x.op ≠ 3 := by simpa using h3
    have hlo := of_decide_eq_false hlo
    have hhi := of_decide_eq_false hhi
    have lb := lb (.inl ⟨by omega, by omega⟩)
    have lc := lc ⟨by omega, by omega⟩
    refine ⟨_, rfl, _, rfl, _, rfl, _, rfl, _, rfl, _, rfl, _, rfl, _, rfl, _, rfl, _, rfl, _, rfl, _, rfl, _, rfl, _, rfl, _, rfl, _, rfl, ?_⟩
    refine call_val (vs := [.agg (knV [o0, o1, o2, o3, o4, o5, o6, o7]).toArray, .slice (some ⟨g3, 0, none⟩) 2 2]) rfl (fun W hW => has116 [o0, o1, o2, o3, o4, o5, o6, o7] [x.b, x.c] (some ⟨g3, 0, none⟩) 2 W rfl (by simp) (by simp; omega) (hrow hW rfl)) fun v hv => ⟨bsv (foldK x [o0, o1, o2, o3, o4, o5, o6, o7]), by rw [hv, show foldK x [o0, o1, o2, o3, o4, o5, o6, o7] = ([x.b, x.c] : List Int).all (knO [o0, o1, o2, o3, o4, o5, o6, o7]) from by unfold foldK; rw [if_neg h2, if_neg h3]; simp]; cases ([x.b, x.c] : List Int).all (knO [o0, o1, o2, o3, o4, o5, o6, o7]) <;> simp [bsv, Is], fun a W rep => ?_⟩
    simp only [putF] at rep
    have hq := fun q (hq : q = foldK x [o0, o1, o2, o3, o4, o5, o6, o7]) => post q hq (by omega) (by omega)
    generalize foldK x [o0, o1, o2, o3, o4, o5, o6, o7] = q at rep hq
    cases q <;> exact hq _ rfl a W (rep.le (by simp only [bsv]; (simp only [setn, List.nil_append, List.cons_append, leF, leH_nil, leH_cons, leF_nil, lk, scp, scpL, scpO, resF, resH, resO, resV, resVL, nth, Nat.reduceBEq, Nat.reduceLT, decide_true, decide_false, List.length, List.length_cons, List.length_nil, Nat.reduceAdd, Bool.and_self, Bool.and_true, and_true, true_and, numF] <;> try simp)) (by (simp only [setn, List.nil_append, List.cons_append, leF, leH_nil, leH_cons, leF_nil, lk, scp, scpL, scpO, resF, resH, resO, resV, resVL, nth, Nat.reduceBEq, Nat.reduceLT, decide_true, decide_false, List.length, List.length_cons, List.length_nil, Nat.reduceAdd, Bool.and_self, Bool.and_true, and_true, true_and, numF] <;> try simp)))
end Go.Proofs.YtlbiogokpadaoaaGreatDoor
