/- graph.Of: a history's graph. -/
import Derived.Test.YtbkpiljencaoeaaGrT4
import Derived.Test.YtbkpiljencaoeaaGrCodeT
import Derived.Test.YtbkpiljencaoeaaGrM0
import Derived.Test.YtbkpiljencaoeaaGHsW6
import Derived.Test.YtbkpiljencaoeaaSxGhost
set_option linter.unusedSimpArgs false
set_option linter.unusedVariables false
set_option linter.unnecessarySimpa false
namespace Go.Proofs.Ytbkpiljencaoeaa
open Go Go.Sx Go.Hs Go.Gr
set_option maxRecDepth 100000
def ComP (h : List Ev) (v : Value) (w' : World) : Prop :=
 (comO h = none ∧ v = .tuple #[.slice none 0 0, .int .i64 120]) ∨
 ∃ (z : List (At × Hd)) (B : Option Addr) (bc : Nat), comO h = some (z.map (·.1)) ∧ z.length ≤ 500 ∧ v = .tuple #[.slice B z.length bc, .int .i64 0] ∧ AtsAt w' B z
theorem comP_of {h : List Ev} {v : Value} {w' : World} (hr : ComR h v w') : ComP h v w' := by
 rcases hr with ⟨hv, hs | ⟨l, hs, hl⟩⟩ | ⟨z, B, bc, l, hs, hz, hl, hv, ha⟩
 ·exact .inl ⟨by unfold comO; rw [hs], hv⟩
 ·refine .inl ⟨?_, hv⟩
  unfold comO; rw [hs]
  exact if_pos hl
 ·refine .inr ⟨z, B, bc, ?_, hl, hv, ha⟩
  unfold comO; rw [hs]
  have e : comL l = z.map (·.1) := hz.symm
  show (if 500 < (comL l).length then none else some (comL l)) = _
  rw [e, if_neg (by rw [List.length_map]; omega)]
theorem committed31P (A : Option Addr) (c : Nat) (h : List Ev) (w : World) (hA : RowAt w A (cellsE h)) (hl : h.length ≤ 1000) :
  CallsV Try.prog 31 [.slice A h.length c] w fun v w' => ComP h v w' ∧ Fresh w w' :=
 (committed31 A c h w hA hl).mono fun _ _ ⟨h1, h2⟩ => ⟨comP_of h1, h2⟩
def OfR (h : List Ev) (v : Value) (w' : World) : Prop :=
 (comO h = none ∧ v = .tuple #[.int .i64 0, .slice none 0 0, .int .i64 120]) ∨
 ∃ (l : List At) (B : Option Addr) (bc : Nat), comO h = some l ∧ v = .tuple #[.int .i64 l.length, .slice B (edL l).length bc, .int .i64 0] ∧ RowAt w' B (cellsD (edL l))
theorem of18 (A : Option Addr) (c : Nat) (h : List Ev) (w : World) (hA : RowAt w A (cellsE h)) (hl : h.length ≤ 1000) :
  CallsV Try.prog 18 [.slice A h.length c] w fun v w' => OfR h v w' ∧ Fresh w w' := by
 refine calls_go (keep := K18) (nt := 81) (svs := [.val (.slice A h.length c)]) Try.func18 x18 n18 (by simp) (by simp [IsL, Is]) fun R hR => ?_
 (refine Y_go 600 ?_; dsimp only [X18, numF, Nat.reduceAdd, zq9r, zq9q, Y_k, zq4u, zq8p, zq6q, YK, zq8t, zq6u, zq9i, normF, zq6n, Nat.reduceBEq, zq6l, zq6k, zq6m, zq86, zq87, zq9y, t18n14, T18n14, zq8o, zq9j])
 refine call_base (vs := [.slice A h.length c]) rfl (R := fun W v w' => ComP h v w' ∧ Fresh W w') (fun W hW => committed31P A c h W (hA.keep hW.fresh') hl) (fun _ _ _ hr => hr.2) fun W v W' hW ⟨hr, _⟩ ov => ?_
 rcases hr with ⟨hs, hv⟩ | ⟨z, B, bc, hs, hzl, hv, hat⟩
 ·refine ⟨.tup [.val (.slice none 0 0), .val (.int .i64 120)], by rw [hv]; simp [Is, IsL], ?_⟩
  dsimp only [zq8t]
  (refine Y_go 600 ?_; dsimp only [Y_k, zq4u, zq8o, zq6n, Nat.reduceBEq, zq6k, YK, zq8t, zq5j, zq2f, nth, zq2e, zq6l, zq9i, normF, zq6m, zq86, zq87, zq9y, t18n13, T18n13, zq9r, zq9q, zq50, zq8p, zq6q, zq04, zq92, zq9b, zq0i, zq9d, zq9s, zq6h, zq8x, YC, t18n0, T18n0, zq6u, zq89, zq9x, zq9p, t18n12, T18n12, zq8a, t18n11, T18n11, zq55, zq0r, zq9t, zq9v])
  refine ⟨fun _ => ?_, fun hb => absurd hb (by decide)⟩
  exact ret_rule (vs := [.int .i64 0, .slice none 0 0, .int .i64 120]) r18 rfl rfl fun W hW => hR _ _ ⟨.inl ⟨hs, rfl⟩, (ov.heap hW).fresh'⟩
 refine ⟨.tup [.val (.slice B z.length bc), .val (.int .i64 0)], by rw [hv]; simp [Is, IsL], ?_⟩
 obtain ⟨hrow, hats⟩ := hat
 generalize hq : z.map (·.1) = l at hs
 have hlz : l.length = z.length := by rw [← hq, List.length_map]
 have hget : ∀ i (hi : i < z.length), l.getD i default = z[i].1 := fun i hi => by
  rw [← hq, List.getD_eq_getElem?_getD, List.getElem?_map, List.getElem?_eq_getElem hi]; rfl
 have hz := rowE0 hrow 81 []
 have sB : 0 < z.length → B.isSome = true := fun h => hrow.isSome (j := 0) (by rw [cellsTs_len]; omega)
 have hpl : ∀ p ∈ z, p.1.loads.length ≤ 1000000 ∧ p.1.stores.length ≤ 1000000 := fun p hp => by
  have := comO_lens hs p.1 (by rw [← hq]; exact List.mem_map_of_mem hp)
  omega
 have cl : ∀ i (hi : i < z.length) k v, (cellsT z[i].1 z[i].2)[k]? = some v → CellAt ⟨W', W'.heap.size, [], 81, []⟩ B ((i : Int).toNat * 11 + k) v := by
  intro i hi k v hk
  have := (List.getElem?_eq_some_iff.1 hk).1
  rw [Int.toNat_natCast]
  exact hz.cell (by rw [cellsTs_get z hi this]; exact hk)
 dsimp only [zq8t]
 (refine Y_go 600 ?_; dsimp only [Y_k, zq4u, zq8o, zq6n, Nat.reduceBEq, zq6k, YK, zq8t, zq5j, zq2f, nth, zq2e, zq6l, zq9i, normF, zq6m, zq86, zq87, zq9y, t18n13, T18n13, zq9r, zq9q, zq50, zq8p, zq6q, zq04, zq92, zq9b, zq0i, zq9d, zq9s, zq6h, zq8x, YC, t18n0, T18n0, zq6u, zq89, zq9x, zq9p, t18n12, T18n12, zq8a, t18n11, T18n11, zq55, zq0r, zq9t, zq9v])
 refine ⟨fun hb => absurd hb (by decide), fun _ => ?_⟩
 refine loop_go (α := Nat × Option Addr × Nat) (fun q => q.1 ≤ z.length) (fun _ => ⟨W', W'.heap.size, [], 81, []⟩)
  (fun q => { F := [(5, .val (.slice B z.length bc)), (7, .own 0 0), (20, .val (.slice B z.length bc)), (21, .val (.int .i64 z.length)), (22, .val (.int .i64 q.1))], H := [.own 28 0 2 q.2.1 (edAll l q.1).length q.2.2 (cellsD (edAll l q.1))] }) (fun q => z.length - q.1) (fun _ => rfl) ?start ?round
 case start =>
  intro a W rep
  exact ⟨(0, none, 0), Nat.zero_le _, (rep.adopt 7 28 2 rfl).le (by (simp only [setn, List.nil_append, List.cons_append, leF, leH_nil, leH_cons, leF_nil, lk, scp, scpL, scpO, resF, resH, resO, resV, resVL, nth, Nat.reduceBEq, Nat.reduceLT, decide_true, decide_false, List.length, List.length_cons, List.length_nil, Nat.reduceAdd, Bool.and_self, Bool.and_true, and_true, true_and, numF] <;> try simp)) (by (simp only [setn, List.nil_append, List.cons_append, leF, leH_nil, leH_cons, leF_nil, lk, scp, scpL, scpO, resF, resH, resO, resV, resVL, nth, Nat.reduceBEq, Nat.reduceLT, decide_true, decide_false, List.length, List.length_cons, List.length_nil, Nat.reduceAdd, Bool.and_self, Bool.and_true, and_true, true_and, numF] <;> try simp); exact ⟨rfl, rfl⟩)⟩
 case round =>
  rintro ⟨i, D, dc⟩ hi I again
  simp only at hi ⊢
  (refine Y_go 600 ?_; dsimp only [zq9y, t18n9, T18n9, zq9r, zq9q, Y_k, zq50, zq8o, zq6n, Nat.reduceBEq, zq6l, zq6k, zq04, zq92, zq9b, zq0i, zq9e, YK, zq8t, zq9i, normF, zq6m, zq86, zq87, zq8f, t18n8, T18n8, zq9s, zq6h, zq8x, YC, zq9p, t18n7, T18n7, zq9t, zq4u, zq58, zq06, zq0w, zq5c, zq1p, zq1c, List.nil_append, List.cons_append, zq1g, zq1d, zq1b, zq17, zq5e, List.length_cons, List.length_nil, Nat.reduceAdd, List.map, zq6q, zq6u, zq6p, zq5d, zq7t, zq8l, zq73, zq8m, zq77, zq7g, zq8k, zq0a, zq1x, nth, zq1t, dropL, takeL, zq1r, splice, setn, zq8s, zq89, zq8c, t18n6, T18n6, zq55, zq0r, zq8p, zq9v, zq9u, popTo, zq6i, YP, t18n10, T18n10, zq8a, zq9x])
  refine ⟨fun hlt => ?_, fun hge => ?_⟩
  rotate_left
  ·have hie : i = z.length := by have := of_decide_eq_false hge; omega
   subst hie
   rw [← hlz]
   refine ret_rule (vs := [.int .i64 l.length, .slice D (edAll l l.length).length dc, .int .i64 0]) r18 rfl rfl fun W hW => hR _ _ ⟨.inr ⟨l, D, dc, hs, rfl, hW.rowAt' (i := 0) rfl⟩, (ov.heap hW).fresh'⟩
  have hlt : i < z.length := by have := of_decide_eq_true hlt; omega
  refine ⟨⟨by omega, by omega, sB (by omega)⟩, _, cl i hlt 0 _ rfl, _, cl i hlt 1 _ rfl, _, cl i hlt 2 _ rfl, _, cl i hlt 3 _ rfl, _, cl i hlt 4 _ rfl, _, cl i hlt 5 _ rfl, _, cl i hlt 6 _ rfl, ?_⟩
  refine ⟨_, _, _, cl i hlt 7 _ rfl, _, _, _, cl i hlt 8 _ rfl, _, cl i hlt 9 _ rfl, _, cl i hlt 10 _ rfl, ?_⟩
  intro ga
  have hxi := hget i hlt
  have hxs := hats _ (List.getElem_mem hlt)
  have lx := hpl _ (List.getElem_mem hlt)
  generalize z[i] = px at hxi hxs lx
  obtain ⟨x, hx⟩ := px
  simp only at hxi hxs lx
  refine loop_go (α := Nat × Option Addr × Nat) (fun q => q.1 ≤ z.length) (fun _ => ⟨W', W'.heap.size, [], 81, []⟩)
   (fun q => { F := [(5, .val (.slice B z.length bc)), (7, .own 0 0), (8, .val (.int .i64 i)), (9, .ptr 1 0), (20, .val (.slice B z.length bc)), (21, .val (.int .i64 z.length)), (22, .val (.int .i64 i)), (27, .val (.slice B z.length bc)), (28, .val (.int .i64 z.length)), (29, .val (.int .i64 q.1))], H := [.own 28 0 2 q.2.1 (edAll l i ++ edRow l i q.1).length q.2.2 (cellsD (edAll l i ++ edRow l i q.1)), .cells ga 75 (svL x hx)] }) (fun q => z.length - q.1) (fun _ => rfl) ?start2 ?round2
  case start2 =>
   intro a W rep
   refine ⟨(0, D, dc), Nat.zero_le _, ?_⟩
   simp only [show edAll l i ++ edRow l i 0 = edAll l i from List.append_nil _]
   exact rep.le (by (simp only [setn, List.nil_append, List.cons_append, leF, leH_nil, leH_cons, leF_nil, lk, scp, scpL, scpO, resF, resH, resO, resV, resVL, nth, Nat.reduceBEq, Nat.reduceLT, decide_true, decide_false, List.length, List.length_cons, List.length_nil, Nat.reduceAdd, Bool.and_self, Bool.and_true, and_true, true_and, numF] <;> try simp)) (by simp only [svL]; (simp only [setn, List.nil_append, List.cons_append, leF, leH_nil, leH_cons, leF_nil, lk, scp, scpL, scpO, resF, resH, resO, resV, resVL, nth, Nat.reduceBEq, Nat.reduceLT, decide_true, decide_false, List.length, List.length_cons, List.length_nil, Nat.reduceAdd, Bool.and_self, Bool.and_true, and_true, true_and, numF] <;> try simp); try rfl)
  case round2 =>
   rintro ⟨k, D, dc⟩ hk I2 again2
   simp only at hk ⊢
   (refine Y_go 600 ?_; dsimp only [svL, zq9y, t18n5, T18n5, zq9r, zq9q, Y_k, zq50, zq8o, zq6n, Nat.reduceBEq, zq6l, zq6k, zq04, zq92, zq9b, zq0i, zq9e, YK, zq8t, zq9i, normF, zq6m, zq86, zq87, zq8c, zq8f, t18n4, T18n4, zq9s, zq6h, zq8x, YC, zq9p, t18n3, T18n3, zq9t, zq4u, zq58, zq06, zq0w, zq5c, zq1p, zq1c, List.nil_append, List.cons_append, zq1g, zq1d, zq1b, zq17, zq5e, List.length_cons, List.length_nil, Nat.reduceAdd, List.map, zq6q, zq6u, zq6p, zq5d, zq7t, zq8l, zq73, zq8m, zq77, zq7g, zq8k, zq0a, zq1x, nth, zq1t, dropL, takeL, zq1r, splice, setn, zq8s, zq89, t18n2, T18n2, zq9d, Y_gk, zq6d, YR, zq5a, zq14, zq69, zq1o, zq1k, zq19, zq18, zq9g, zq6e, YS, zq6a, zq02, zq4v, zq8p, zq6o, zq0b, zq9l, zq6f, t18n1, T18n1, zq5g, zq21, zq7u, zq20, zq22, zq25, zq5h, repL, zq23, Nat.reduceMul, zq24, zq26, zq5l, zq2w, zq09, zq08, zq2s, zq2r, zq2n, zq2j, zq2k, denL, den, zq2l, zq2h, zqa1, zq4w, zq0e, zqa2, Nat.add_zero, zq6c, zq9c, zq0c, YG, zq6b, zq8a, zq6g, zq03, zq9u, popTo, zq6i, YP])
   refine ⟨fun hlt2 => ?_, fun hge => ?_⟩
   rotate_left
   ·have hke : k = z.length := by have := of_decide_eq_false hge; omega
    subst hke
    refine ⟨((i + 1 : Nat) : Int), ArOk.to (by omega) (by omega) (by omega), lend_rule fun a W rep => again (i + 1, D, dc) hlt (by show z.length - (i + 1) < z.length - i; omega) a W ?_⟩
    have e : edAll l (i + 1) = edAll l i ++ edRow l i z.length := by rw [edAll_succ, hlz]
    simp only [e]
    exact rep.le (by (simp only [setn, List.nil_append, List.cons_append, leF, leH_nil, leH_cons, leF_nil, lk, scp, scpL, scpO, resF, resH, resO, resV, resVL, nth, Nat.reduceBEq, Nat.reduceLT, decide_true, decide_false, List.length, List.length_cons, List.length_nil, Nat.reduceAdd, Bool.and_self, Bool.and_true, and_true, true_and, numF] <;> try simp)) (by (simp only [setn, List.nil_append, List.cons_append, leF, leH_nil, leH_cons, leF_nil, lk, scp, scpL, scpO, resF, resH, resO, resV, resVL, nth, Nat.reduceBEq, Nat.reduceLT, decide_true, decide_false, List.length, List.length_cons, List.length_nil, Nat.reduceAdd, Bool.and_self, Bool.and_true, and_true, true_and, numF] <;> try simp))
   have hlt2 : k < z.length := by have := of_decide_eq_true hlt2; omega
   refine ⟨⟨by omega, by omega, sB (by omega)⟩, _, cl k hlt2 0 _ rfl, _, cl k hlt2 1 _ rfl, _, cl k hlt2 2 _ rfl, _, cl k hlt2 3 _ rfl, _, cl k hlt2 4 _ rfl, _, cl k hlt2 5 _ rfl, _, cl k hlt2 6 _ rfl, ?_⟩
   refine ⟨_, _, _, cl k hlt2 7 _ rfl, _, _, _, cl k hlt2 8 _ rfl, _, cl k hlt2 9 _ rfl, _, cl k hlt2 10 _ rfl, ?_⟩
   intro gb
   have hyi := hget k hlt2
   have hys := hats _ (List.getElem_mem hlt2)
   have ly := hpl _ (List.getElem_mem hlt2)
   generalize z[k] = py at hyi hys ly ⊢
   obtain ⟨y, hy⟩ := py
   simp only at hyi hys ly ⊢
   have hb : edB l i k = (decide (i ≠ k) && edC x y) := by unfold edB; rw [hxi, hyi]
   have hle1 : (edAll l i).length ≤ 500 * 500 := Nat.le_trans (edAll_len l i) (Nat.mul_le_mul (by omega) (by omega))
   have hle2 := edRow_len l i k
   have hcap : (edAll l i ++ edRow l i k).length + 1 ≤ maxLen ∧ ((edAll l i ++ edRow l i k).length + 1) * 16 ≤ 140737488355328 := by
    rw [List.length_append]; simp only [maxLen]; omega
   have hadd : ArOk .add .i64 (k : Int) 1 ((k + 1 : Nat) : Int) := ArOk.to (by omega) (by omega) (by omega)
   have hnk := edRow_succ l i k
   have yes : edB l i k = true → edAll l i ++ edRow l i (k + 1) = (edAll l i ++ edRow l i k) ++ [((i : Int), (k : Int))] := fun h => by rw [hnk, h, if_pos rfl, List.append_assoc]
   have no : edB l i k = false → edAll l i ++ edRow l i (k + 1) = edAll l i ++ edRow l i k := fun h => by rw [hnk, h]; simp
   have go : ∀ D2 dc2 L, edAll l i ++ edRow l i (k + 1) = L → ∀ (a : Act) (W : World), Rep ⟨W', W'.heap.size, [], 81, []⟩ { F := [(5, .val (.slice B z.length bc)), (7, .own 0 0), (8, .val (.int .i64 i)), (9, .ptr 1 0), (20, .val (.slice B z.length bc)), (21, .val (.int .i64 z.length)), (22, .val (.int .i64 i)), (27, .val (.slice B z.length bc)), (28, .val (.int .i64 z.length)), (29, .val (.int .i64 ((k + 1 : Nat) : Int)))], H := [.own 28 0 2 D2 L.length dc2 (cellsD L), .cells ga 75 (svL x hx)] } a W → I2 a W := by
    intro D2 dc2 L hL a W rep
    refine again2 (k + 1, D2, dc2) hlt2 (by show z.length - (k + 1) < z.length - k; omega) a W ?_
    simp only [hL]; exact rep
   generalize edAll l i ++ edRow l i k = L0 at *
   have eL : ∀ p : Ed, cellsD (L0 ++ [p]) = cellsD L0 ++ [.int .i64 p.1, .int .i64 p.2] := fun p => by simp [cellsD, edV]
   have eS : ∀ p : Ed, (L0 ++ [p]).length = L0.length + 1 := fun p => by simp
   have hedT : edC x y = true → ((i : Int) != (k : Int)) = true → edB l i k = true := fun h1 h2 => by
    rw [hb, h1, Bool.and_true, decide_eq_true_eq]
    intro e; subst e; simp at h2
   have hedF : edC x y = false → edB l i k = false := fun h1 => by rw [hb, h1, Bool.and_false]
   refine ⟨fun h1 => ⟨fun h2 => ?_, fun h2 => ⟨fun h3 => ⟨fun h4 => ?_, fun h4 => ⟨fun h5 => ?_, fun h5 => ?_⟩⟩, fun h3 => ⟨fun h5 => ?_, fun h5 => ?_⟩⟩⟩, fun h1 => ?_⟩
   case refine_7 =>
    have hf : edB l i k = false := by
     have : (i : Int) = k := by simpa using h1
     have : i = k := by omega
     rw [hb, decide_eq_false (by simpa using this), Bool.false_and]
    exact ⟨_, hadd, lend_rule fun a W rep => go D dc _ (no hf) a W (rep.le (by (simp only [setn, List.nil_append, List.cons_append, leF, leH_nil, leH_cons, leF_nil, lk, scp, scpL, scpO, resF, resH, resO, resV, resVL, nth, Nat.reduceBEq, Nat.reduceLT, decide_true, decide_false, List.length, List.length_cons, List.length_nil, Nat.reduceAdd, Bool.and_self, Bool.and_true, and_true, true_and, numF] <;> try simp)) (by simp only [svL]; (simp only [setn, List.nil_append, List.cons_append, leF, leH_nil, leH_cons, leF_nil, lk, scp, scpL, scpO, resF, resH, resO, resV, resVL, nth, Nat.reduceBEq, Nat.reduceLT, decide_true, decide_false, List.length, List.length_cons, List.length_nil, Nat.reduceAdd, Bool.and_self, Bool.and_true, and_true, true_and, numF] <;> try simp)))⟩
   case refine_1 =>
    have hf := hedT (by unfold edC; rw [h2]; rfl) h1
    refine fun g => ⟨hcap, fun D2 dc2 => ⟨_, hadd, lend_rule fun a W rep => go D2 dc2 _ (yes hf) a W ?_⟩⟩
    rw [eL, eS]
    exact rep.res.le (by (simp only [setn, List.nil_append, List.cons_append, leF, leH_nil, leH_cons, leF_nil, lk, scp, scpL, scpO, resF, resH, resO, resV, resVL, nth, Nat.reduceBEq, Nat.reduceLT, decide_true, decide_false, List.length, List.length_cons, List.length_nil, Nat.reduceAdd, Bool.and_self, Bool.and_true, and_true, true_and, numF] <;> try simp)) (by simp only [svL]; (simp only [setn, List.nil_append, List.cons_append, leF, leH_nil, leH_cons, leF_nil, lk, scp, scpL, scpO, resF, resH, resO, resV, resVL, nth, Nat.reduceBEq, Nat.reduceLT, decide_true, decide_false, List.length, List.length_cons, List.length_nil, Nat.reduceAdd, Bool.and_self, Bool.and_true, and_true, true_and, numF] <;> try simp))
   case refine_2 =>
    have hf := hedT (by unfold edC; rw [h2, h4, decide_eq_true (by simpa using h3)]; rfl) h1
    refine fun g => ⟨hcap, fun D2 dc2 => ⟨_, hadd, lend_rule fun a W rep => go D2 dc2 _ (yes hf) a W ?_⟩⟩
    rw [eL, eS]
    exact rep.res.le (by (simp only [setn, List.nil_append, List.cons_append, leF, leH_nil, leH_cons, leF_nil, lk, scp, scpL, scpO, resF, resH, resO, resV, resVL, nth, Nat.reduceBEq, Nat.reduceLT, decide_true, decide_false, List.length, List.length_cons, List.length_nil, Nat.reduceAdd, Bool.and_self, Bool.and_true, and_true, true_and, numF] <;> try simp)) (by simp only [svL]; (simp only [setn, List.nil_append, List.cons_append, leF, leH_nil, leH_cons, leF_nil, lk, scp, scpL, scpO, resF, resH, resO, resV, resVL, nth, Nat.reduceBEq, Nat.reduceLT, decide_true, decide_false, List.length, List.length_cons, List.length_nil, Nat.reduceAdd, Bool.and_self, Bool.and_true, and_true, true_and, numF] <;> try simp))
   case refine_4 =>
    have hf := hedF (by unfold edC; rw [h2, h4, h5, Bool.and_false]; rfl)
    exact ⟨_, hadd, lend_rule fun a W rep => go D dc _ (no hf) a W (rep.le (by (simp only [setn, List.nil_append, List.cons_append, leF, leH_nil, leH_cons, leF_nil, lk, scp, scpL, scpO, resF, resH, resO, resV, resVL, nth, Nat.reduceBEq, Nat.reduceLT, decide_true, decide_false, List.length, List.length_cons, List.length_nil, Nat.reduceAdd, Bool.and_self, Bool.and_true, and_true, true_and, numF] <;> try simp)) (by simp only [svL]; (simp only [setn, List.nil_append, List.cons_append, leF, leH_nil, leH_cons, leF_nil, lk, scp, scpL, scpO, resF, resH, resO, resV, resVL, nth, Nat.reduceBEq, Nat.reduceLT, decide_true, decide_false, List.length, List.length_cons, List.length_nil, Nat.reduceAdd, Bool.and_self, Bool.and_true, and_true, true_and, numF] <;> try simp)))⟩
   case refine_6 =>
    have hf := hedF (by unfold edC; rw [h2, decide_eq_false (by simpa using h3), h5]; rfl)
    exact ⟨_, hadd, lend_rule fun a W rep => go D dc _ (no hf) a W (rep.le (by (simp only [setn, List.nil_append, List.cons_append, leF, leH_nil, leH_cons, leF_nil, lk, scp, scpL, scpO, resF, resH, resO, resV, resVL, nth, Nat.reduceBEq, Nat.reduceLT, decide_true, decide_false, List.length, List.length_cons, List.length_nil, Nat.reduceAdd, Bool.and_self, Bool.and_true, and_true, true_and, numF] <;> try simp)) (by simp only [svL]; (simp only [setn, List.nil_append, List.cons_append, leF, leH_nil, leH_cons, leF_nil, lk, scp, scpL, scpO, resF, resH, resO, resV, resVL, nth, Nat.reduceBEq, Nat.reduceLT, decide_true, decide_false, List.length, List.length_cons, List.length_nil, Nat.reduceAdd, Bool.and_self, Bool.and_true, and_true, true_and, numF] <;> try simp)))⟩
   all_goals
    refine call_val (R := fun v => v = .bool (clsB x y)) (vs := [valT x hx, valT y hy]) rfl (fun W hW => clash32 x y hx hy W (hxs.1.keep hW.fresh') (hxs.2.keep hW.fresh') (hys.1.keep hW.fresh') (hys.2.keep hW.fresh') lx.1 lx.2 ly.1 ly.2) fun v hv => ?_
    cases hc : clsB x y with
    | true =>
     rw [hc] at hv
     refine ⟨.bt, by rw [hv]; simp [Is], ?_⟩
     dsimp only [zq8t]
     (refine Y_go 600 ?_; dsimp only [Y_gk, zq6n, Nat.reduceBEq, zq6l, zq6k, zq6c, YR, zq4v, zq8o, zq8p, zq6p, zq0b, YK, zq8t, zq69, zq6o, zq0c, Y_k, zq9i, normF, zq6m, zq89, zq87, zq86, zq8c, zq8f, zq9s, zq6f, YC, zq9y, t18n1, T18n1, zq9q, zq4u, zq5g, List.map, zq6q, zq21, zq7u, zq73, zq0a, dropL, takeL, zq20, splice, setn, zq22, zq25, zq5h, repL, List.cons_append, List.nil_append, zq23, Nat.reduceMul, zq7t, List.length_cons, List.length_nil, Nat.reduceAdd, zq8l, zq8m, zq8k, zq24, zq26, zq5l, zq2w, nth, zq09, zq08, zq2s, zq9b, zq2r, zq2n, zq2j, zq2k, denL, den, zq2l, zq2h, zqa1, zq4w, zq04, zq92, zq0e, zqa2])
     have hf := hedT (by unfold edC; rw [h2, h5, hc]; simp) h1
     refine fun g => ⟨hcap, fun D2 dc2 => ⟨_, hadd, lend_rule fun a W rep => go D2 dc2 _ (yes hf) a W ?_⟩⟩
     rw [eL, eS]
     exact rep.res.le (by (simp only [setn, List.nil_append, List.cons_append, leF, leH_nil, leH_cons, leF_nil, lk, scp, scpL, scpO, resF, resH, resO, resV, resVL, nth, Nat.reduceBEq, Nat.reduceLT, decide_true, decide_false, List.length, List.length_cons, List.length_nil, Nat.reduceAdd, Bool.and_self, Bool.and_true, and_true, true_and, numF] <;> try simp)) (by simp only [svL]; (simp only [setn, List.nil_append, List.cons_append, leF, leH_nil, leH_cons, leF_nil, lk, scp, scpL, scpO, resF, resH, resO, resV, resVL, nth, Nat.reduceBEq, Nat.reduceLT, decide_true, decide_false, List.length, List.length_cons, List.length_nil, Nat.reduceAdd, Bool.and_self, Bool.and_true, and_true, true_and, numF] <;> try simp))
    | false =>
     rw [hc] at hv
     refine ⟨.bf, by rw [hv]; simp [Is], ?_⟩
     dsimp only [zq8t]
     (refine Y_go 600 ?_; dsimp only [Y_gk, zq6n, Nat.reduceBEq, zq6l, zq6k, zq6c, YR, zq4v, zq8o, zq8p, zq6p, zq0b, YK, zq8t, zq69, zq6o, zq0c, Y_k, zq9i, normF, zq6m, zq8a, zq89, zq87, zq86, zq8c, zq8f, zq9s, zq6g, YC, zq9p, zqa1, zq9q, zq4w, zq6q, zq04, zq92, zq9b, zq0e, zq4u, zqa2])
     have hf := hedF (by unfold edC; first | rw [h2, h4, hc, Bool.and_false, Bool.and_false]; rfl | rw [h2, decide_eq_false (by simpa using h3), hc, Bool.and_false]; rfl)
     exact ⟨_, hadd, lend_rule fun a W rep => go D dc _ (no hf) a W (rep.le (by (simp only [setn, List.nil_append, List.cons_append, leF, leH_nil, leH_cons, leF_nil, lk, scp, scpL, scpO, resF, resH, resO, resV, resVL, nth, Nat.reduceBEq, Nat.reduceLT, decide_true, decide_false, List.length, List.length_cons, List.length_nil, Nat.reduceAdd, Bool.and_self, Bool.and_true, and_true, true_and, numF] <;> try simp)) (by simp only [svL]; (simp only [setn, List.nil_append, List.cons_append, leF, leH_nil, leH_cons, leF_nil, lk, scp, scpL, scpO, resF, resH, resO, resV, resVL, nth, Nat.reduceBEq, Nat.reduceLT, decide_true, decide_false, List.length, List.length_cons, List.length_nil, Nat.reduceAdd, Bool.and_self, Bool.and_true, and_true, true_and, numF] <;> try simp)))⟩
end Go.Proofs.Ytbkpiljencaoeaa
