/- shuntref12.Judge. -/
import Derived.Test.YtnedgfkgmdoahaaHsJ9
import Derived.Test.YtnedgfkgmdoahaaHsCodeJ
set_option linter.unusedSimpArgs false
set_option linter.unusedVariables false
set_option linter.unnecessarySimpa false
namespace Go.Proofs.Ytnedgfkgmdoahaa
open Go Go.Sx Go.Hs
set_option maxRecDepth 100000
theorem refjudge42 (A A' : Option Addr) (c c' : Nat) (h : List Ev) (first : List Int) (w : World) (hA : RowAt w A (cellsE h)) (hF : RowAt w A' (first.map uV)) (hl : h.length ≤ 1000) (hfl : first.length ≤ 100000) (hm : mayL h = true) (hls : ∀ x ∈ splitR h, x.loads.length ≤ 1000 ∧ x.stores.length ≤ 1000 ∧ ∀ p ∈ x.loads, 0 ≤ p.1) (hpl : ∀ n, n < h.length → (evA h n).kind = 7 → 0 ≤ (evA h n).addr) :
  CallsV Try.prog 42 [.slice A h.length c, .slice A' first.length c'] w fun v w' => v = .tuple #[.int .i64 ((frst (badE h (splitR h) first) h.length).getD 0 : Nat), .bool (frst (badE h (splitR h) first) h.length).isNone] ∧ Fresh w w' := by
 refine calls_go (keep := K42) (nt := 98) (svs := [.val (.slice A h.length c), .val (.slice A' first.length c')]) Try.func42 x42 n42 (by simp) (by simp [IsL, Is]) fun R hR => ?_
 (refine Y_go 600 ?_; dsimp only [X42, numF, Nat.reduceAdd, zq9r, zq9q, Y_k, zq4u, zq8p, zq6q, YK, zq8t, zq6p, zq9i, normF, zq6n, Nat.reduceBEq, zq6l, zq6k, zq6m, zq86, zq8a, zq87, zq9y, t42n15, T42n15, zq8o, zq9j])
 refine call_base (vs := [.slice A h.length c]) rfl (R := fun W v w' => ∃ (z : List (At × Hd)) (B D : Option Addr) (bc dc : Nat), z.map (·.1) = splitR h ∧ v = .tuple #[.slice B z.length bc, .slice D z.length dc] ∧ World.ownsB w' W.heap.size 90 11 (.slice B z.length bc) z.length (cellsTs z) ∧ World.ownsB w' W.heap.size 4 1 (.slice D z.length dc) z.length (oddV z) ∧ AttAt w' z ∧ Fresh W w') (fun W hW => (refsplit35 A c h W (hA.keep hW.fresh') hl hm).mono fun v w' ⟨z, B, D, bc, dc, h1, h2, h3, h4, h5, h6, _⟩ => ⟨z, B, D, bc, dc, h1, h2, h3, h4, h5, h6⟩) (fun _ _ _ hr => by obtain ⟨_, _, _, _, _, _, _, _, _, _, hf⟩ := hr; exact hf) fun W v W' hW hr ov => ?_
 obtain ⟨z, B, D, bc, dc, hz, hv, ho, hod, hat, hf⟩ := hr
 refine ⟨.tup [.val (.slice B z.length bc), .val (.slice D z.length dc)], by rw [hv]; simp [Is, IsL], ?_⟩
 simp only [putF] at ov ⊢
 have hB : RowAt W' B (cellsTs z) := RowAt.of_own ho rfl
 have hD : RowAt W' D (oddV z) := RowAt.of_own hod rfl
 have hA1 : RowAt W' A (cellsE h) := hA.keep (hW.fresh'.tr hf)
 have hF1 : RowAt W' A' (first.map uV) := hF.keep (hW.fresh'.tr hf)
 have hzl : z.length ≤ 1000 := by
  have := congrArg List.length hz
  have h2 := begs_len h h.length
  unfold splitR at this
  simp only [List.length_map] at this
  omega
 have hp : ∀ p ∈ z, p.1.loads.length ≤ 1000 ∧ p.1.stores.length ≤ 1000 ∧ ∀ q ∈ p.1.loads, 0 ≤ q.1 := fun p hp => hls p.1 (by rw [← hz]; exact List.mem_map_of_mem (f := fun x : At × Hd => x.1) hp)
 have fr : ∀ {H : List SO} {W2 : World}, HeapOk ⟨W', W'.heap.size, [], 98, []⟩ H W2 → Fresh w W2 := fun hh => (ov.heap hh).fresh'
 have word : ∀ {H : List SO} {W2 : World} (a : Int) (n : Nat), HeapOk ⟨W', W'.heap.size, [], 98, []⟩ H W2 → 0 ≤ a → n ≤ h.length → CallsV Try.prog 65 [.slice A h.length c, .slice B z.length bc, .slice A' first.length c', .int .i64 a, .int .i64 n] W2 fun v w' => v = .int .u64 (wordTo h (z.map (·.1)) first a n) ∧ Fresh W2 w' := fun a n hW ha hn =>
  word65 A B A' c bc c' h z first a n _ (hA1.keep hW.fresh') (hB.keep hW.fresh') (fun p hp => ⟨(hat p hp).1.keep hW.fresh', (hat p hp).2.keep hW.fresh'⟩) (hF1.keep hW.fresh') ha hn hl hzl (fun p q => (hp p q).2.1) hfl
 have done : ∀ s m b, denAll s.H s.F [4, 5] = some [.int .i64 m, .bool b] → (m = ((frst (badE h (z.map (·.1)) first) h.length).getD 0 : Nat) ∧ b = (frst (badE h (z.map (·.1)) first) h.length).isNone) → RetG (cxOf Try.prog Try.f42 K42 T42 R) ⟨W', W'.heap.size, [], 98, []⟩ s := fun s m b hq hb =>
  ret_rule (vs := [.int .i64 m, .bool b]) r42 rfl hq fun W hW => hR _ _ ⟨by rw [← hz, hb.1, hb.2]; rfl, fr hW⟩
 (refine Y_go 600 ?_; dsimp only [Y_k, zq4u, zq8o, zq6n, Nat.reduceBEq, zq6k, YK, zq8t, zq5j, zq2f, nth, zq2e, zq6l, zq9i, normF, zq6m, zq86, zq87, zq8a, zq9y, t42n14, T42n14, zq9r, zq9q, zq8p, zq6q, zq9t, zq9v])
 clear hR hW hf ov hv
 refine loop_go (α := Nat) (fun n => n ≤ h.length ∧ frst (badE h (z.map (·.1)) first) n = none) (fun _ => ⟨W', W'.heap.size, [], 98, []⟩)
  (fun n => { F := [(0, .val (.slice A h.length c)), (1, .val (.slice A' first.length c')), (6, .val (.slice B z.length bc)), (7, .val (.slice D z.length dc)), (8, .val (.int .i64 n))], H := [] }) (fun n => h.length - n) (fun _ => rfl) ?start ?round
 case start =>
  intro q W rep
  exact ⟨0, ⟨Nat.zero_le _, rfl⟩, rep.le (by (simp only [setn, List.nil_append, List.cons_append, leF, leH_nil, leH_cons, leF_nil, lk, scp, scpL, scpO, resF, resH, resO, resV, resVL, nth, Nat.reduceBEq, Nat.reduceLT, decide_true, decide_false, List.length, List.length_cons, List.length_nil, Nat.reduceAdd, Bool.and_self, Bool.and_true, and_true, true_and, numF] <;> try simp)) (by (simp only [setn, List.nil_append, List.cons_append, leF, leH_nil, leH_cons, leF_nil, lk, scp, scpL, scpO, resF, resH, resO, resV, resVL, nth, Nat.reduceBEq, Nat.reduceLT, decide_true, decide_false, List.length, List.length_cons, List.length_nil, Nat.reduceAdd, Bool.and_self, Bool.and_true, and_true, true_and, numF] <;> try simp))⟩
 case round =>
  rintro n ⟨hn, hno⟩ I again
  have hn : n ≤ h.length := hn
  have hno : frst (badE h (z.map (·.1)) first) n = none := hno
  (refine Y_go 600 ?_; dsimp only [zq9y, t42n12, T42n12, zq9r, zq9q, Y_k, zq4u, zq8o, zq6n, Nat.reduceBEq, zq6l, zq6k, YK, zq8t, zq55, zq0r, zq50, zq04, zq92, zq9b, zq0i, zq9e, zq9i, normF, zq6m, zq86, zq87, zq9s, zq6h, zq8x, YC, zq9p, t42n11, T42n11, zq9t, zq58, zq06, zq0w, zq5a, zq16, Nat.add_zero, zq5c, zq1p, zq1c, List.nil_append, zq1b, zq18, zq8p, zq6q, zq9c, Y_gk, zq6d, YR, zq69, zq9l, YG, YS, zq6b, zq9n, zq8s, zq4v, zq6p, zq0c, zq8a, zq89, zq6g, t42n9, T42n9, zq9v, zq9u, popTo, zq6i, YP, t42n13, T42n13, zq6o, zq9x])
  refine ⟨fun hlt => ?_, fun hge => ?_⟩
  rotate_left
  ·have hil : n = h.length := by have := of_decide_eq_false hge; omega
   subst hil
   exact done _ 0 true rfl (by rw [hno]; exact ⟨rfl, rfl⟩)
  have hlt : n < h.length := by have := of_decide_eq_true hlt; omega
  have cl : ∀ k v, (evA h n).cells[k]? = some v → CellAt ⟨W', W'.heap.size, [], 98, []⟩ A ((n : Int).toNat * 9 + k) v := fun k v hk => evCell (rowE0 hA1 98 []) hlt k v hk
  have hsome : A.isSome = true := hA.isSome (j := n * 9) (by rw [cellsE_len]; omega)
  have hbn : 0 ≤ (n : Int) ∧ (n : Int) < (h.length : Int) ∧ A.isSome = true := ⟨by omega, by omega, hsome⟩
  have hadd : ArOk .add .i64 (n : Int) 1 ((n + 1 : Nat) : Int) := ArOk.to (by omega) (by omega) (by omega)
  have hit : badE h (z.map (·.1)) first n = true → (n : Int) = ((frst (badE h (z.map (·.1)) first) h.length).getD 0 : Nat) ∧ false = (frst (badE h (z.map (·.1)) first) h.length).isNone := fun hb => by
   rw [frst_hit hno hb hlt]; exact ⟨rfl, rfl⟩
  have inn : (((evA h n).kind == 7 && wordTo h (z.map (·.1)) first (evA h n).addr n != (evA h n).value) = false) → ∀ F, leF 0 F [(0, .val (.slice A h.length c)), (1, .val (.slice A' first.length c')), (6, .val (.slice B z.length bc)), (7, .val (.slice D z.length dc)), (8, .val (.int .i64 n)), (9, .val (.int .i64 0))] →
    G (cxOf Try.prog Try.f42 K42 T42 R) ⟨W', W'.heap.size, [], 98, []⟩ [.code (XC.ref 8).loop, .blk 2, .blk 1, .code (.ref 10), .lend I, .blk 0, .code (.ref 13)] { F := F, H := [] } := by
   intro hk7 F hF
   refine G.le (E' := ⟨W', W'.heap.size, [], 98, []⟩) (s' := { F := [(0, .val (.slice A h.length c)), (1, .val (.slice A' first.length c')), (6, .val (.slice B z.length bc)), (7, .val (.slice D z.length dc)), (8, .val (.int .i64 n)), (9, .val (.int .i64 0))], H := [] }) rfl (fun a W rep => rep.le hF (by (simp only [setn, List.nil_append, List.cons_append, leF, leH_nil, leH_cons, leF_nil, lk, scp, scpL, scpO, resF, resH, resO, resV, resVL, nth, Nat.reduceBEq, Nat.reduceLT, decide_true, decide_false, List.length, List.length_cons, List.length_nil, Nat.reduceAdd, Bool.and_self, Bool.and_true, and_true, true_and, numF] <;> try simp))) ?_
   refine loop_go (α := Nat) (fun i => i ≤ z.length ∧ ((z.take i).any fun q => badX h (z.map (·.1)) first n q.1) = false) (fun _ => ⟨W', W'.heap.size, [], 98, []⟩)
    (fun i => { F := [(0, .val (.slice A h.length c)), (1, .val (.slice A' first.length c')), (6, .val (.slice B z.length bc)), (7, .val (.slice D z.length dc)), (8, .val (.int .i64 n)), (9, .val (.int .i64 i))], H := [] }) (fun i => z.length - i) (fun _ => rfl) ?start2 ?round2
   case start2 =>
    intro q W rep
    exact ⟨0, ⟨Nat.zero_le _, rfl⟩, rep.le (by (simp only [setn, List.nil_append, List.cons_append, leF, leH_nil, leH_cons, leF_nil, lk, scp, scpL, scpO, resF, resH, resO, resV, resVL, nth, Nat.reduceBEq, Nat.reduceLT, decide_true, decide_false, List.length, List.length_cons, List.length_nil, Nat.reduceAdd, Bool.and_self, Bool.and_true, and_true, true_and, numF] <;> try simp)) (by (simp only [setn, List.nil_append, List.cons_append, leF, leH_nil, leH_cons, leF_nil, lk, scp, scpL, scpO, resF, resH, resO, resV, resVL, nth, Nat.reduceBEq, Nat.reduceLT, decide_true, decide_false, List.length, List.length_cons, List.length_nil, Nat.reduceAdd, Bool.and_self, Bool.and_true, and_true, true_and, numF] <;> try simp))⟩
   case round2 =>
    rintro i ⟨hi, hio⟩ I2 again2
    have hi : i ≤ z.length := hi
    (refine Y_go 600 ?_; dsimp only [zq9y, t42n8, T42n8, zq9r, zq9q, Y_k, zq4u, zq8o, zq6n, Nat.reduceBEq, zq6l, zq6k, YK, zq8t, zq55, zq0r, zq50, zq04, zq92, zq9b, zq0i, zq9e, zq9i, normF, zq6m, zq86, zq87, zq9s, zq6h, zq8x, YC, zq9p, t42n7, T42n7, zq9t, zq8p, zq6q, zq89, zq9v, zq9u, popTo, zq6i, YP, zqa1, t42n10, T42n10, zq4w, zq0e, zq8a, zqa2])
    refine ⟨fun hlt2 => ?_, fun hge => ?_⟩
    rotate_left
    ·have hil : i = z.length := by have := of_decide_eq_false hge; omega
     subst hil
     refine ⟨_, hadd, lend_rule fun q W rep => again (n + 1) ⟨hlt, frst_miss hno ?_⟩ (by show h.length - (n + 1) < h.length - n; omega) q W (rep.le (by (simp only [setn, List.nil_append, List.cons_append, leF, leH_nil, leH_cons, leF_nil, lk, scp, scpL, scpO, resF, resH, resO, resV, resVL, nth, Nat.reduceBEq, Nat.reduceLT, decide_true, decide_false, List.length, List.length_cons, List.length_nil, Nat.reduceAdd, Bool.and_self, Bool.and_true, and_true, true_and, numF] <;> try simp)) (by (simp only [setn, List.nil_append, List.cons_append, leF, leH_nil, leH_cons, leF_nil, lk, scp, scpL, scpO, resF, resH, resO, resV, resVL, nth, Nat.reduceBEq, Nat.reduceLT, decide_true, decide_false, List.length, List.length_cons, List.length_nil, Nat.reduceAdd, Bool.and_self, Bool.and_true, and_true, true_and, numF] <;> try simp)))⟩
     unfold badE
     rw [hk7, Bool.false_or, List.any_map]
     rw [List.take_length] at hio
     exact hio
    have hlt2 : i < z.length := by have := of_decide_eq_true hlt2; omega
    have hzi : z[i]? = some z[i] := List.getElem?_eq_getElem hlt2
    have ct : ∀ q v, (cellsT z[i].1 z[i].2)[q]? = some v → CellAt ⟨W', W'.heap.size, [], 98, []⟩ B ((i : Int).toNat * 11 + q) v := fun q v hq => by
     rw [Int.toNat_natCast]
     exact hB.cell (by rw [cellsTs_get z hlt2 (List.getElem?_eq_some_iff.1 hq).1]; exact hq)
    have cd : CellAt ⟨W', W'.heap.size, [], 98, []⟩ D ((i : Int).toNat * 1) (.bool z[i].1.odd) := by
     rw [Int.toNat_natCast, Nat.mul_one]
     exact hD.cell (by unfold oddV; rw [List.getElem?_map, hzi]; rfl)
    have hsD : D.isSome = true := hD.isSome (j := i) (by simpa [oddV] using hlt2)
    generalize z[i] = pz at hzi ct cd
    obtain ⟨x, hd⟩ := pz
    have hxm : (x, hd) ∈ z := List.mem_of_getElem? hzi
    have hxs := hp _ hxm
    have hst := (hat _ hxm).1
    have hsB : B.isSome = true := hB.isSome (j := i * 11) (by rw [cellsTs_len]; omega)
    have hbi : 0 ≤ (i : Int) ∧ (i : Int) < (z.length : Int) ∧ B.isSome = true := ⟨by omega, by omega, hsB⟩
    have hbd : 0 ≤ (i : Int) ∧ (i : Int) < (z.length : Int) ∧ D.isSome = true := ⟨by omega, by omega, hsD⟩
    have haddi : ArOk .add .i64 (i : Int) 1 ((i + 1 : Nat) : Int) := ArOk.to (by omega) (by omega) (by omega)
    simp only at hxs hst cd ct
    have htk : (z.take (i + 1)).any (fun q => badX h (z.map (·.1)) first n q.1) = badX h (z.map (·.1)) first n x := by
     rw [List.take_add_one, hzi, List.any_append, hio]; simp
    have hitx : badX h (z.map (·.1)) first n x = true → badE h (z.map (·.1)) first n = true := fun hb => by
     unfold badE
     rw [List.any_eq_true.2 ⟨x, List.mem_map.2 ⟨_, hxm, rfl⟩, hb⟩, Bool.or_true]
    have nx2 : badX h (z.map (·.1)) first n x = false → ∀ q W, Rep ⟨W', W'.heap.size, [], 98, []⟩ { F := [(0, .val (.slice A h.length c)), (1, .val (.slice A' first.length c')), (6, .val (.slice B z.length bc)), (7, .val (.slice D z.length dc)), (8, .val (.int .i64 n)), (9, .val (.int .i64 ((i + 1 : Nat) : Int)))], H := [] } q W → I2 q W := fun hb q W rep =>
     again2 (i + 1) ⟨hlt2, by rw [htk]; exact hb⟩ (by show z.length - (i + 1) < z.length - i; omega) q W rep
    refine loop_go (α := Nat) (fun k => k ≤ x.loads.length ∧ (k = 0 ∨ x.point = n) ∧ ((x.loads.take k).any fun p => x.odd || wordTo h (z.map (·.1)) first p.1 n != p.2) = false) (fun _ => ⟨W', W'.heap.size, [], 98, []⟩)
     (fun k => { F := [(0, .val (.slice A h.length c)), (1, .val (.slice A' first.length c')), (6, .val (.slice B z.length bc)), (7, .val (.slice D z.length dc)), (8, .val (.int .i64 n)), (9, .val (.int .i64 i)), (10, .val (.int .i64 k))], H := [] }) (fun k => x.loads.length - k) (fun _ => rfl) ?start3 ?round3
    case start3 =>
     intro q W rep
     exact ⟨0, ⟨Nat.zero_le _, .inl rfl, rfl⟩, rep.le (by (simp only [setn, List.nil_append, List.cons_append, leF, leH_nil, leH_cons, leF_nil, lk, scp, scpL, scpO, resF, resH, resO, resV, resVL, nth, Nat.reduceBEq, Nat.reduceLT, decide_true, decide_false, List.length, List.length_cons, List.length_nil, Nat.reduceAdd, Bool.and_self, Bool.and_true, and_true, true_and, numF] <;> try simp)) (by (simp only [setn, List.nil_append, List.cons_append, leF, leH_nil, leH_cons, leF_nil, lk, scp, scpL, scpO, resF, resH, resO, resV, resVL, nth, Nat.reduceBEq, Nat.reduceLT, decide_true, decide_false, List.length, List.length_cons, List.length_nil, Nat.reduceAdd, Bool.and_self, Bool.and_true, and_true, true_and, numF] <;> try simp))⟩
    case round3 =>
     rintro k ⟨hk, hk0, hko⟩ I3 again3
     have hk : k ≤ x.loads.length := hk
     (refine Y_go 600 ?_; dsimp only [zq9y, t42n5, T42n5, zq9r, zq9q, Y_k, zq4u, zq8o, zq6n, Nat.reduceBEq, zq6l, zq6k, YK, zq8t, zq58, zq06, zq0w, zq5a, zq16, zq5c, zq1p, zq1g, List.nil_append, zq1b, zq18, zq55, zq0r, zq50, zq04, zq92, zq9b, zq0i, zq9e, Y_gk, zq6d, YR, zq69, zq1c, zq9c, zq4v, zq8p, zq6p, zq0b, zq9i, normF, zq6m, zq86, zq87, zq9s, zq6h, zq8x, YC, zq9p, t42n4, T42n4, zq9t, List.cons_append, zq17, zq5e, List.length_nil, List.map, zq6q, zq5d, zq7t, List.length_cons, Nat.reduceAdd, zq8l, zq73, zq8m, zq8k, zq0a, zq1x, nth, zq1t, dropL, takeL, zq1r, splice, setn, zq8s, zq89, zq8c, t42n2, T42n2, zq1d, zq6e, YS, zq6a, zq9l, zq9n, zq6o, zq6f, t42n1, T42n1, zq8a, zq9x, zq6c, zq14, Nat.add_zero, zq1o, zq1k, zq19, YG, zq9u, popTo, zq6i, YP, zqa1, t42n6, T42n6, zq4w, zq0e, zqa2, zq6b, zq0c, zq6g])
     refine ⟨hbi, hsB, _, _, _, ct 7 _ rfl, fun hlk => ⟨hbi, hsB, _, ct 5 _ rfl, fun hpt => ⟨hbi, hsB, _, _, _, ct 7 _ rfl, ?_⟩, fun hpt => ?_⟩, fun hlk => ?_⟩
     ·have hlk : k < x.loads.length := by have := of_decide_eq_true hlk; omega
      have hpt : x.point = n := by simpa using hpt
      have hlv : ∀ q v, (prV x.loads[k])[q]? = some v → CellAt ⟨W', W'.heap.size, [], 98, []⟩ hd.lA ((k : Int).toNat * 2 + q) v := fun q v hq => by
       rw [Int.toNat_natCast]
       exact hst.cell (by rw [cellsPr_get x.loads hlk (List.getElem?_eq_some_iff.1 hq).1]; exact hq)
      have hxk : x.loads[k]? = some x.loads[k] := List.getElem?_eq_getElem hlk
      have hpm : x.loads[k] ∈ x.loads := List.getElem_mem hlk
      have hbk : 0 ≤ (k : Int) ∧ (k : Int) < (x.loads.length : Int) ∧ hd.lA.isSome = true := ⟨by omega, by omega, hst.isSome (j := k * 2) (by rw [cellsPr_len]; omega)⟩
      generalize x.loads[k] = p at hlv hxk hpm
      have haddk : ArOk .add .i64 (k : Int) 1 ((k + 1 : Nat) : Int) := ArOk.to (by omega) (by omega) (by omega)
      have hp0 := hxs.2.2 p hpm
      have hbx : (x.odd || wordTo h (z.map (·.1)) first p.1 n != p.2) = true → badE h (z.map (·.1)) first n = true := fun hb => hitx (by unfold badX; rw [hpt, beq_self_eq_true, Bool.true_and]; exact List.any_eq_true.2 ⟨p, hpm, hb⟩)
      have hkk : (x.odd || wordTo h (z.map (·.1)) first p.1 n != p.2) = false → ((x.loads.take (k + 1)).any fun p => x.odd || wordTo h (z.map (·.1)) first p.1 n != p.2) = false := fun hb => by
       rw [List.take_add_one, hxk, List.any_append, hko]; simp [hb]
      refine ⟨hbk, _, hlv 0 _ rfl, _, hlv 1 _ rfl, fun g => ⟨hbd, _, cd, fun hodd => ?_, fun hodd => ?_⟩⟩
      ·have hodd : x.odd = true := hodd
       exact done _ n false rfl (hit (hbx (by rw [hodd]; rfl)))
      ·have hodd : x.odd = false := hodd
       refine call_val (R := fun v => v = .int .u64 (wordTo h (z.map (·.1)) first p.1 n)) (vs := [.slice A h.length c, .slice B z.length bc, .slice A' first.length c', .int .i64 p.1, .int .i64 n]) rfl (fun W hW => word _ n hW hp0 hn) fun v hv => ⟨.val (.int .u64 (wordTo h (z.map (·.1)) first p.1 n)), by rw [hv]; simp [Is], ?_⟩
       (refine Y_go 600 ?_; dsimp only [zq8t, zq9n, zq6n, Nat.reduceBEq, zq6l, zq6k, zq6c, YG])
       (refine still_y (by dsimp only [zq6n, Nat.reduceBEq, zq6l, zq6k, zq5c, zq8o, zq1o, nth, zq1k, List.length_cons, List.length_nil, Nat.reduceAdd, dropL, takeL, zq19, zq18]; exact ⟨rfl, det_of_den rfl⟩) ?_; refine Y_go 600 ?_; dsimp only [Y_gk, zq6n, Nat.reduceBEq, zq6l, zq6k, zq6c, YR, zq50, zq8o, zq04, zq96, zq9b, zq0i, zq9d, YK, zq8t, Y_k, zq4v, zq8p, zq6o, zq0c, zq9i, normF, zq6m, zq87, zq89, zq86, zq8c, zq9s, zq6h, zq8x, YC, zq9y, t42n1, T42n1, zq9r, zq9q, zq4u, zq6p, zq8a, zq9x, zq9p, zqa1, t42n3, T42n3, zq4w, zq6q, zq92, zq0e, zqa2])
       have hadk : ∀ q W, Rep ⟨W', W'.heap.size, [], 98, []⟩ { F := [(0, .val (.slice A h.length c)), (1, .val (.slice A' first.length c')), (6, .val (.slice B z.length bc)), (7, .val (.slice D z.length dc)), (8, .val (.int .i64 n)), (9, .val (.int .i64 i)), (10, .val (.int .i64 ((k + 1 : Nat) : Int)))], H := [] } q W → (wordTo h (z.map (·.1)) first p.1 n != p.2) = false → I3 q W := fun q W rep hb =>
        again3 (k + 1) ⟨hlk, .inr hpt, hkk (by rw [hodd, hb]; rfl)⟩ (by show x.loads.length - (k + 1) < x.loads.length - k; omega) q W rep
       refine ⟨fun hb => done _ n false rfl (hit (hbx (by rw [hb, Bool.or_true]))), fun hb => ⟨_, haddk, lend_rule fun q W rep => hadk q W (rep.le (by (simp only [setn, List.nil_append, List.cons_append, leF, leH_nil, leH_cons, leF_nil, lk, scp, scpL, scpO, resF, resH, resO, resV, resVL, nth, Nat.reduceBEq, Nat.reduceLT, decide_true, decide_false, List.length, List.length_cons, List.length_nil, Nat.reduceAdd, Bool.and_self, Bool.and_true, and_true, true_and, numF] <;> try simp)) (by (simp only [setn, List.nil_append, List.cons_append, leF, leH_nil, leH_cons, leF_nil, lk, scp, scpL, scpO, resF, resH, resO, resV, resVL, nth, Nat.reduceBEq, Nat.reduceLT, decide_true, decide_false, List.length, List.length_cons, List.length_nil, Nat.reduceAdd, Bool.and_self, Bool.and_true, and_true, true_and, numF] <;> try simp))) hb⟩⟩
     ·have hpt : (x.point == (n : Int)) = false := hpt
      refine ⟨_, haddi, lend_rule fun q W rep => nx2 (by unfold badX; rw [hpt]; rfl) q W (rep.le (by (simp only [setn, List.nil_append, List.cons_append, leF, leH_nil, leH_cons, leF_nil, lk, scp, scpL, scpO, resF, resH, resO, resV, resVL, nth, Nat.reduceBEq, Nat.reduceLT, decide_true, decide_false, List.length, List.length_cons, List.length_nil, Nat.reduceAdd, Bool.and_self, Bool.and_true, and_true, true_and, numF] <;> try simp)) (by (simp only [setn, List.nil_append, List.cons_append, leF, leH_nil, leH_cons, leF_nil, lk, scp, scpL, scpO, resF, resH, resO, resV, resVL, nth, Nat.reduceBEq, Nat.reduceLT, decide_true, decide_false, List.length, List.length_cons, List.length_nil, Nat.reduceAdd, Bool.and_self, Bool.and_true, and_true, true_and, numF] <;> try simp)))⟩
     ·have hkl : k = x.loads.length := by have := of_decide_eq_false hlk; omega
      subst hkl
      rw [List.take_length] at hko
      refine ⟨_, haddi, lend_rule fun q W rep => nx2 (by unfold badX; rw [hko, Bool.and_false]) q W (rep.le (by (simp only [setn, List.nil_append, List.cons_append, leF, leH_nil, leH_cons, leF_nil, lk, scp, scpL, scpO, resF, resH, resO, resV, resVL, nth, Nat.reduceBEq, Nat.reduceLT, decide_true, decide_false, List.length, List.length_cons, List.length_nil, Nat.reduceAdd, Bool.and_self, Bool.and_true, and_true, true_and, numF] <;> try simp)) (by (simp only [setn, List.nil_append, List.cons_append, leF, leH_nil, leH_cons, leF_nil, lk, scp, scpL, scpO, resF, resH, resO, resV, resVL, nth, Nat.reduceBEq, Nat.reduceLT, decide_true, decide_false, List.length, List.length_cons, List.length_nil, Nat.reduceAdd, Bool.and_self, Bool.and_true, and_true, true_and, numF] <;> try simp)))⟩
  refine ⟨hbn, hsome, _, cl 0 _ rfl, fun h7 => ⟨hbn, hsome, hbn, hsome, _, cl 6 _ rfl, _, cl 7 _ rfl, ?_⟩, fun h7 => inn (by rw [h7, Bool.false_and]) _ (by (simp only [setn, List.nil_append, List.cons_append, leF, leH_nil, leH_cons, leF_nil, lk, scp, scpL, scpO, resF, resH, resO, resV, resVL, nth, Nat.reduceBEq, Nat.reduceLT, decide_true, decide_false, List.length, List.length_cons, List.length_nil, Nat.reduceAdd, Bool.and_self, Bool.and_true, and_true, true_and, numF] <;> try simp))⟩
  refine call_val (R := fun v => v = .int .u64 (wordTo h (z.map (·.1)) first (evA h n).addr n)) (vs := [.slice A h.length c, .slice B z.length bc, .slice A' first.length c', .int .i64 (evA h n).addr, .int .i64 n]) rfl (fun W hW => word _ n hW (hpl n hlt (by simpa using h7)) hn) fun v hv => ⟨.val (.int .u64 (wordTo h (z.map (·.1)) first (evA h n).addr n)), by rw [hv]; simp [Is], ?_⟩
  (refine Y_go 600 ?_; dsimp only [zq8t, zq9n, zq6n, Nat.reduceBEq, zq6l, zq6k, zq69, YG])
  (refine still_y (by dsimp only [zq6n, Nat.reduceBEq, zq6l, zq6k, zq5c, zq8o, zq1p, zq1c, List.nil_append, zq1b, zq18]; exact ⟨_, cl 7 _ rfl, rfl, det_of_den rfl⟩) ?_; refine Y_go 600 ?_; dsimp only [Y_gk, zq6n, Nat.reduceBEq, zq6l, zq6k, zq69, YR, zq50, zq8o, zq04, zq96, zq9b, zq0i, zq9d, YK, zq8t, Y_k, zq4v, zq8p, zq6p, zq0b, zq9i, normF, zq6m, zq86, zq87, zq89, zq9s, zq6h, zq8x, YC, zq9y, t42n0, T42n0, zq9r, zq9q, zq4u, zq8a, zq9x, zq9p, t42n9, T42n9, zq6q, zq9t, zq9v])
  refine ⟨fun hb => done _ n false rfl (hit ?_), fun hb => inn ?_ _ (by (simp only [setn, List.nil_append, List.cons_append, leF, leH_nil, leH_cons, leF_nil, lk, scp, scpL, scpO, resF, resH, resO, resV, resVL, nth, Nat.reduceBEq, Nat.reduceLT, decide_true, decide_false, List.length, List.length_cons, List.length_nil, Nat.reduceAdd, Bool.and_self, Bool.and_true, and_true, true_and, numF] <;> try simp))⟩
  ·unfold badE; rw [h7, hb]; rfl
  ·rw [hb, Bool.and_false]
end Go.Proofs.Ytnedgfkgmdoahaa
