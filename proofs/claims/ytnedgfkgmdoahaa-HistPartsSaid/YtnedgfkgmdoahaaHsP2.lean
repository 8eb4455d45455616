/- shuntlaw12.HistParts: the walk. -/
import Derived.Test.YtnedgfkgmdoahaaHsP1
import Derived.Test.YtnedgfkgmdoahaaHsX6
import Derived.Test.YtnedgfkgmdoahaaHsCodeS
set_option linter.unusedSimpArgs false
set_option linter.unusedVariables false
set_option linter.unnecessarySimpa false
namespace Go.Proofs.Ytnedgfkgmdoahaa
open Go Go.Sx Go.Hs
set_option maxRecDepth 100000
theorem frst_two {p q r : Nat → Bool} {n : Nat} (h1 : ∀ i, i < n → p i = q i) (h2 : ∀ i, p (n + i) = r i) : ∀ m, frst p (n + m) = match frst q n with | some k => some k | none => (frst r m).map (n + ·)
 | 0 => by
  have left : frst p n = frst q n := by
   clear h2
   induction n with
   | zero => rfl
   | succ n ih => simp only [frst]; rw [ih fun i hi => h1 i (by omega), h1 n (by omega)]
  rw [Nat.add_zero, left]; cases frst q n <;> rfl
 | m + 1 => by
  have ih := frst_two h1 h2 m
  rw [show n + (m + 1) = (n + m) + 1 by omega]
  simp only [frst]
  rw [ih, h2]
  cases frst q n with
  | some k => rfl
  | none =>
   simp only
   cases frst r m with
   | some k => rfl
   | none => simp only [Option.map_none]; cases r m <;> rfl
theorem parts_law {a b : List Ev} {la lb : List At} (ha : splitL a = some la) (ho : overL la = true) (hb : splitL b = some lb) (first : List Int) (h511 : ∀ e ∈ a, e.addr < ((512 : Nat) : Int)) :
  splitL (a ++ b) = some (la ++ lb.map (upA a.length)) ∧ frst (badAt (a ++ b) (la ++ lb.map (upA a.length)) (begL first)) (a ++ b).length = match frst (badAt a la (begL first)) a.length with | some k => some k | none => (frst (badAt b lb (begL (leftL 512 a la first))) b.length).map (a.length + ·) := by
 have y := lay_of ha hb
 refine ⟨by rw [split_two ha ho, hb]; rfl, ?_⟩
 rw [List.length_append]
 refine frst_two (fun i hi => bad_left y _ hi) (fun i => ?_) _
 rw [bad_right y]
 exact (left_mem ha first h511).bad b lb i
theorem frst_some {p : Nat → Bool} : ∀ {n k : Nat}, frst p n = some k → k < n ∧ p k = true
 | 0, k, h => by cases h
 | n + 1, k, h => by
  simp only [frst] at h
  split at h
  ·rename_i e; injection h with h; subst h
   have := frst_some e; exact ⟨by omega, this.2⟩
  ·split at h
   ·injection h with h; subst h; exact ⟨by omega, by assumption⟩
   ·cases h
theorem evs_oneP (l : List Ev) : ∀ v ∈ cellsE l, v.oneCell' = true := by
 intro v hv
 obtain ⟨e, _, he⟩ := List.mem_flatMap.1 hv
 simp only [Ev.cells, List.mem_cons, List.not_mem_nil, or_false] at he
 rcases he with rfl | rfl | rfl | rfl | rfl | rfl | rfl | rfl | rfl <;> rfl
def judV (f : Option Nat) : Value := .tuple #[.int .i64 (f.getD 0 : Nat), .bool f.isNone, .int .i64 0]
def judS (f : Option Nat) : SV := .tup [.val (.int .i64 (f.getD 0 : Nat)), bsv f.isNone, .val (.int .i64 0)]
theorem judS_is (H : List SO) (f : Option Nat) : Is H (judS f) (judV f) := by cases f <;> simp [judS, judV, Is, IsL, bsv]
theorem law12 (A A2 A' : Option Addr) (c c2 c' : Nat) (a b : List Ev) (first : List Int) (w : World) (hA : RowAt w A (cellsE a)) (hB : RowAt w A2 (cellsE b)) (hF : RowAt w A' (first.map uV)) :
  CallsV Try.prog 12 [.slice A a.length c, .slice A2 b.length c2, .slice A' first.length c'] w fun v w' => v = .bool true ∧ Fresh w w' := by
 refine calls_go (keep := K12) (nt := 161) (svs := [.val (.slice A a.length c), .val (.slice A2 b.length c2), .val (.slice A' first.length c')]) Try.func12 x12 n12 (by simp) (by simp [IsL, Is]) fun R hR => ?_
 (refine Y_go 600 ?_; dsimp only [X12, numF, Nat.reduceAdd, zq9r, zq9q, Y_k, zq4u, zq8p, zq6p, YK, zq8t, zq9i, normF, zq6n, Nat.reduceBEq, zq6l, zq6k, zq6m, zq86, zq8a, zq87, zq9y, t12n26, T12n26, zq9j])
 refine call_val (R := fun v => v = .bool true) (vs := []) rfl (fun W hW => alive45 W) fun v hv => ⟨.bt, by rw [hv]; simp [Is], ?_⟩
 (refine Y_go 600 ?_; dsimp only [zq8t, Y_k, zq4u, zq8o, zq6n, Nat.reduceBEq, zq6k, YK, zq9i, normF, zq6l, zq6m, zq86, zq89, zq8a, zq87, zq9y, t12n25, T12n25, zq9r, zq9q, zq55, zq0r, zq50, zq8p, zq6q, zq04, zq92, zq9b, zq0i, zq9g, Y_gk, zq6e, YS, zq6a, zq4v, zq6o, zq0b, zq9s, zq6f, YC, t12n0, T12n0, zq9x, YR, zq6c, zq0c, zq53, zq0m, zq6g, zq9p, t12n24, T12n24, zq9j])
 have done : ∀ s, denAll s.H s.F [6] = some [.bool true] → RetG (cxOf Try.prog Try.f12 K12 T12 R) ⟨w, w.heap.size, [], 161, []⟩ s := fun s hs =>
  ret_rule (vs := [.bool true]) r12 rfl hs fun W hW => hR _ _ ⟨rfl, hW.fresh'⟩
 refine ⟨fun _ => done _ rfl, fun h1 => ⟨fun _ => done _ rfl, fun h2 => ⟨fun _ => done _ rfl, fun h3 => ?_⟩⟩⟩
 have h1 : a.length ≤ 150 := by have := of_decide_eq_false h1; omega
 have h2 : b.length ≤ 150 := by have := of_decide_eq_false h2; omega
 have h3 : first.length ≤ 600 := by have := of_decide_eq_false h3; omega
 refine call_val (R := fun v => ∃ (B : Option Addr) (n bc : Nat), v = .tuple #[.slice B n bc, .int .i64 (if (splitL b).isSome then 0 else 120)]) (vs := [.slice A2 b.length c2]) rfl (fun W hW => (split31 A2 c2 b W (hB.keep hW.fresh') (by omega)).mono ?_) fun v ⟨B, n, bc, hv⟩ => ⟨.tup [.val (.slice B n bc), .val (.int .i64 (if (splitL b).isSome then 0 else 120))], by rw [hv]; simp [Is, IsL], ?_⟩
 ·rintro v W' (⟨q1, q2, q3⟩ | ⟨z, B, bc, q1, q2, q3⟩)
  ·exact ⟨⟨none, 0, 0, by rw [q1]; exact q2⟩, q3⟩
  ·exact ⟨⟨B, z.length, bc, by rw [q1]; exact q2⟩, q3.fresh'⟩
 (refine Y_go 600 ?_; dsimp only [zq8t, Y_k, zq4u, zq8o, zq6n, Nat.reduceBEq, zq6k, YK, zq5j, zq2f, nth, zq2e, zq6l, zq9i, normF, zq6m, zq86, zq8a, zq87, zq89, zq9y, t12n23, T12n23, zq9r, zq9q, zq9j])
 cases he : endB a with
 | false =>
  refine call_val (R := fun v => v = .bool false) (vs := [.slice A a.length c]) rfl (fun W hW => (over47 A c a W (hA.keep hW.fresh') (by omega)).mono fun v w' q => ⟨by rw [q.1, he], q.2⟩) fun v hv => ⟨.bf, by rw [hv]; simp [Is], ?_⟩
  (refine Y_go 600 ?_; dsimp only [zq8t, Y_k, zq4u, zq8o, zq6n, Nat.reduceBEq, zq6k, YK, zq9i, normF, zq6l, zq6m, zq86, zq8a, zq87, zq89, zq9y, t12n22, T12n22, zq9r, zq9q, zq53, zq0n, Y_gk, zq6a, YS, zq4v, zq8p, zq6o, zq0b, zq9s, zq6f, YC, t12n1, T12n1, zq9x])
  exact done _ rfl
 | true =>
  refine call_val (R := fun v => v = .bool true) (vs := [.slice A a.length c]) rfl (fun W hW => (over47 A c a W (hA.keep hW.fresh') (by omega)).mono fun v w' q => ⟨by rw [q.1, he], q.2⟩) fun v hv => ⟨.bt, by rw [hv]; simp [Is], ?_⟩
  cases hsb : splitL b with
  | none =>
   rw [show (if (none : Option (List At)).isSome then (0 : Int) else 120) = 120 from rfl]
   (refine Y_go 600 ?_; dsimp only [zq8t, Y_k, zq4u, zq8o, zq6n, Nat.reduceBEq, zq6k, YK, zq9i, normF, zq6l, zq6m, zq86, zq8a, zq89, zq87, zq9y, t12n22, T12n22, zq9r, zq9q, zq53, zq0m, Y_gk, zq6c, YR, zq50, zq8p, zq6q, zq04, zq92, zq9b, zq0i, zq9d, zq4v, zq6o, zq0c, zq9s, zq6h, zq8x, YC, t12n1, T12n1, zq9x, zq9p, t12n21, T12n21, zq9t, zq9v])
   exact ⟨fun _ => done _ rfl, fun q => absurd q (by decide)⟩
  | some lb =>
   rw [show (if (some lb).isSome then (0 : Int) else 120) = 0 from rfl]
   (refine Y_go 600 ?_; dsimp only [zq8t, Y_k, zq4u, zq8o, zq6n, Nat.reduceBEq, zq6k, YK, zq9i, normF, zq6l, zq6m, zq86, zq8a, zq89, zq87, zq9y, t12n22, T12n22, zq9r, zq9q, zq53, zq0m, Y_gk, zq6c, YR, zq50, zq8p, zq6q, zq04, zq92, zq9b, zq0i, zq9d, zq4v, zq6o, zq0c, zq9s, zq6h, zq8x, YC, t12n1, T12n1, zq9x, zq9p, t12n21, T12n21, zq9t, zq9v])
   refine ⟨fun q => absurd q (by decide), fun _ => ?_⟩
   obtain ⟨la, hsa, hov⟩ : ∃ la, splitL a = some la ∧ overL la = true := by
    unfold endB at he
    cases hsa : splitL a with
    | none => rw [hsa] at he; cases he
    | some la => rw [hsa] at he; exact ⟨la, rfl, he⟩
   refine loop_go (α := Nat) (fun i => i ≤ a.length ∧ ∀ e ∈ a.take i, e.addr < ((512 : Nat) : Int)) (fun _ => ⟨w, w.heap.size, [], 161, []⟩)
    (fun i => { F := [(0, .val (.slice A a.length c)), (1, .val (.slice A2 b.length c2)), (2, .val (.slice A' first.length c')), (6, .bf), (7, .bt), (9, .val (.int .i64 0)), (10, .bt), (11, .val (.int .i64 i))], H := [] }) (fun i => a.length - i) (fun _ => rfl) ?start ?round
   case start =>
    intro a W rep
    exact ⟨0, ⟨Nat.zero_le _, by simp⟩, rep.le (by (simp only [setn, List.nil_append, List.cons_append, leF, leH_nil, leH_cons, leF_nil, lk, scp, scpL, scpO, resF, resH, resO, resV, resVL, nth, Nat.reduceBEq, Nat.reduceLT, decide_true, decide_false, List.length, List.length_cons, List.length_nil, Nat.reduceAdd, Bool.and_self, Bool.and_true, and_true, true_and, numF] <;> try simp)) (by (simp only [setn, List.nil_append, List.cons_append, leF, leH_nil, leH_cons, leF_nil, lk, scp, scpL, scpO, resF, resH, resO, resV, resVL, nth, Nat.reduceBEq, Nat.reduceLT, decide_true, decide_false, List.length, List.length_cons, List.length_nil, Nat.reduceAdd, Bool.and_self, Bool.and_true, and_true, true_and, numF] <;> try simp))⟩
   case round =>
    intro i hi I again
    obtain ⟨hi, h511⟩ := hi
    (refine Y_go 600 ?_; dsimp only [zq9y, t12n5, T12n5, zq9r, zq9q, Y_k, zq4u, zq8o, zq6n, Nat.reduceBEq, zq6l, zq6k, YK, zq8t, zq55, zq0r, zq50, zq04, zq92, zq9b, zq0i, zq9e, zq9i, normF, zq6m, zq86, zq87, zq89, zq8a, zq9s, zq6h, zq8x, YC, zq9p, t12n4, T12n4, zq9t, zq58, zq06, zq0w, zq5a, zq16, zq5c, zq1p, zq1c, List.nil_append, zq1b, zq18, zq8p, zq6q, zq9g, t12n2, T12n2, zq9x, zqa1, t12n3, T12n3, zq4w, zq0e, zqa2, zq9u, popTo, zq6i, YP, t12n20, T12n20, zq5h, List.map, repL, zq24, zq26, List.length_nil, zq5l, zq2x, nth, zq2u, Nat.reduceMul, denL, zq2t, zq2r, zq2o, zq2i, List.length_cons, Nat.reduceAdd, setn, List.cons_append, zq8f, t12n19, T12n19, zq2w, zq09, zq08, zq2s, zq2h, t12n18, T12n18, zq9j])
    refine ⟨fun hlt => ?_, fun hge => ?_⟩
    ·have hlt : i < a.length := by have := of_decide_eq_true hlt; omega
     have cl : ∀ k v, (evA a i).cells[k]? = some v → CellAt ⟨w, w.heap.size, [], 161, []⟩ A ((i : Int).toNat * 9 + k) v := fun k v hk => evCell (rowE0 hA 161 []) hlt k v hk
     have sA : A.isSome = true := hA.isSome (j := i * 9) (by rw [cellsE_len]; omega)
     refine ⟨⟨by omega, by omega, sA⟩, sA, _, cl 6 _ rfl, ?_⟩
     refine ⟨fun _ => done _ rfl, fun hle => ?_⟩
     refine ⟨((i + 1 : Nat) : Int), ArOk.to (by omega) (by omega) (by omega), lend_rule fun a' W rep => again (i + 1) ⟨hlt, ?_⟩ (by omega) a' W (rep.le (by (simp only [setn, List.nil_append, List.cons_append, leF, leH_nil, leH_cons, leF_nil, lk, scp, scpL, scpO, resF, resH, resO, resV, resVL, nth, Nat.reduceBEq, Nat.reduceLT, decide_true, decide_false, List.length, List.length_cons, List.length_nil, Nat.reduceAdd, Bool.and_self, Bool.and_true, and_true, true_and, numF] <;> try simp)) (by (simp only [setn, List.nil_append, List.cons_append, leF, leH_nil, leH_cons, leF_nil, lk, scp, scpL, scpO, resF, resH, resO, resV, resVL, nth, Nat.reduceBEq, Nat.reduceLT, decide_true, decide_false, List.length, List.length_cons, List.length_nil, Nat.reduceAdd, Bool.and_self, Bool.and_true, and_true, true_and, numF] <;> try simp)))⟩
     rw [List.take_add_one, List.getElem?_eq_getElem hlt]
     intro e hm
     rcases List.mem_append.1 hm with q | q
     ·exact h511 e q
     ·simp at q
      subst q
      have := of_decide_eq_false hle
      rw [evA_lt hlt] at this
      omega
    ·have hge : ¬ i < a.length := by have := of_decide_eq_false hge; omega
     rw [List.take_of_length_le (by omega)] at h511
     obtain ⟨p1, p2⟩ := parts_law hsa hov hsb first h511
     refine fun g0 => ⟨cellsE a, by rw [← cellsE_len]; exact hA.rd (evs_oneP a), ⟨by simp only [maxLen]; omega, by omega⟩, fun _ _ => ⟨cellsE b, by rw [← cellsE_len]; exact hB.rd (evs_oneP b), ⟨by simp only [maxLen]; omega, by omega⟩, fun D dc => ?_⟩⟩
     rw [Nat.zero_add, ← List.length_append, ← cellsE_app]
     refine G.le (E' := ⟨w, w.heap.size, [], 161, []⟩) rfl (s' := { F := [(79, .val (.slice A' first.length c')), (78, .val (.slice D (a ++ b).length dc)), (0, .val (.slice A a.length c)), (1, .val (.slice A2 b.length c2)), (2, .val (.slice A' first.length c')), (6, .bf), (7, .bt), (12, .val (.slice D (a ++ b).length dc))], H := [] ++ [.gone g0, .own 65 1 9 D (a ++ b).length dc (cellsE (a ++ b))] }) (fun a W rep => ((rep.plain 78 (i := 1) rfl rfl).plain 12 (i := 1) rfl rfl).le (by (simp only [setn, List.nil_append, List.cons_append, leF, leH_nil, leH_cons, leF_nil, lk, scp, scpL, scpO, resF, resH, resO, resV, resVL, nth, Nat.reduceBEq, Nat.reduceLT, decide_true, decide_false, List.length, List.length_cons, List.length_nil, Nat.reduceAdd, Bool.and_self, Bool.and_true, and_true, true_and, numF] <;> try simp)) (by (simp only [setn, List.nil_append, List.cons_append, leF, leH_nil, leH_cons, leF_nil, lk, scp, scpL, scpO, resF, resH, resO, resV, resVL, nth, Nat.reduceBEq, Nat.reduceLT, decide_true, decide_false, List.length, List.length_cons, List.length_nil, Nat.reduceAdd, Bool.and_self, Bool.and_true, and_true, true_and, numF] <;> try simp))) ?_
     refine G.cut (H1 := []) (r := [.gone g0, .own 65 1 9 D (a ++ b).length dc (cellsE (a ++ b))]) rfl (by (simp only [setn, List.nil_append, List.cons_append, leF, leH_nil, leH_cons, leF_nil, lk, scp, scpL, scpO, resF, resH, resO, resV, resVL, nth, Nat.reduceBEq, Nat.reduceLT, decide_true, decide_false, List.length, List.length_cons, List.length_nil, Nat.reduceAdd, Bool.and_self, Bool.and_true, and_true, true_and, numF] <;> try simp)) fun W1 hW1 hov1 => ?_
     have hO : RowAt W1 D (cellsE (a ++ b)) := hW1.rowAt' (i := 1) (t := 65) (ver := 1) (sz := 9) (n := (a ++ b).length) (c := dc) rfl
     have nil1 : HeapOk ⟨W1, W1.heap.size, fps [], 161, []⟩ [] W1 := heapOk_nil (w := W1) (N := W1.heap.size) (Nat.le_refl _) (fps []) 161 []
     have hA1 : RowAt W1 A (cellsE a) := ((rowE0 hA 161 []).over hov1).at nil1
     have hB1 : RowAt W1 A2 (cellsE b) := ((rowE0 hB 161 []).over hov1).at nil1
     have hF1 : RowAt W1 A' (first.map uV) := ((rowE0 hF 161 []).over hov1).at nil1
     have hf1 : Fresh w W1 := (hov1.heap nil1).fresh'
     clear hW1 hov1 nil1 done
     show G _ ⟨W1, W1.heap.size, [], 161, []⟩ _ _
     have hjud : ∀ {h : List Ev} {A : Option Addr} {c : Nat} {W : World} {A' : Option Addr} {c' : Nat} {fs : List Int}, h.length ≤ 1000 → fs.length ≤ 100000 → ∀ {l : List At}, splitL h = some l → RowAt W A (cellsE h) → RowAt W A' (fs.map uV) → CallsV Try.prog 40 [.slice A h.length c, .slice A' fs.length c'] W fun v w' => v = judR h l fs ∧ Fresh W w' := fun {h A c W A' c' fs} hl hfl {l} hs k1 k2 => (judge40 A A' c c' h fs W k1 k2 hl hfl).mono (by
      rintro v W' ⟨⟨h1, _⟩ | ⟨l', h1, h2⟩, h3⟩
      ·rw [hs] at h1; cases h1
      ·rw [hs] at h1; injection h1 with h1; subst h1; exact ⟨h2, h3⟩)
     unfold judR at hjud
     generalize hq1 : frst (badAt a la (begL first)) a.length = f1 at p2
     generalize hq2 : frst (badAt b lb (begL (leftL 512 a la first))) b.length = f2 at p2
     generalize hq3 : frst (badAt (a ++ b) (la ++ lb.map (upA a.length)) (begL first)) (a ++ b).length = f3 at p2
     rcases f1 with _ | k1 <;> rcases f2 with _ | k2 <;> dsimp only [Option.map_none, Option.map_some] at p2 <;> subst p2
     ·refine call_val (R := fun v => v = judV (frst (badAt (a ++ b) (la ++ lb.map (upA a.length)) (begL first)) (a ++ b).length)) (vs := [.slice D (a ++ b).length dc, .slice A' first.length c']) rfl (fun W hW => hjud (by simp; omega) (by omega) p1 (hO.keep hW.fresh') (hF1.keep hW.fresh')) fun v hv => ⟨judS (frst (badAt (a ++ b) (la ++ lb.map (upA a.length)) (begL first)) (a ++ b).length), by rw [hv]; exact judS_is _ _, ?_⟩
      rw [hq3]
      dsimp only [judS, Option.getD, Option.isNone, bsv]
      (refine Y_go 600 ?_; dsimp only [zq8t, Y_k, zq4u, zq8o, zq6n, Nat.reduceBEq, zq6k, YK, zq5j, zq2f, nth, zq2e, zq6l, zq9i, normF, zq6m, zq86, zq87, zq89, zq8a, zq9y, t12n17, T12n17, zq9r, zq9q, zq9j])
      refine call_val (R := fun v => v = judV (frst (badAt a la (begL first)) a.length)) (vs := [.slice A a.length c, .slice A' first.length c']) rfl (fun W hW => hjud (by omega) (by omega) hsa (hA1.keep hW.fresh') (hF1.keep hW.fresh')) fun v hv => ⟨judS (frst (badAt a la (begL first)) a.length), by rw [hv]; exact judS_is _ _, ?_⟩
      rw [hq1]
      dsimp only [judS, Option.getD, Option.isNone, bsv]
      (refine Y_go 600 ?_; dsimp only [zq8t, Y_k, zq4u, zq8o, zq6n, Nat.reduceBEq, zq6k, YK, zq5j, zq2f, nth, zq2e, zq6l, zq9i, normF, zq6m, zq86, zq87, zq89, zq8a, zq9y, t12n16, T12n16, zq9r, zq9q, zq9j])
      refine call_rule (vs := [.slice A a.length c, .slice A' first.length c', .int .i64 512]) rfl (R := fun W v w' => ∃ (S : Option Addr) (sc : Nat), v = .tuple #[.slice S 512 sc, .int .i64 0] ∧ World.ownsB w' W.heap.size 63 1 (.slice S 512 sc) 512 ((finL a la first 512).map uV) ∧ Fresh W w') (fun W hW => (final41 A A' c c' a first 512 W (hA1.keep hW.fresh') (hF1.keep hW.fresh') (by omega) (by omega)).mono ?_) fun W v W' hW hr => ?_
      ·rintro v W' ⟨⟨q1, _⟩ | ⟨_, _, l', S, sc, q1, q2, q4⟩, q3⟩
       ·rcases q1 with q1 | q1
        ·rw [hsa] at q1; cases q1
        ·omega
       ·rw [hsa] at q1; injection q1 with q1; subst q1
        exact ⟨S, sc, q2, q4, q3⟩
      obtain ⟨S, sc, hv, ho, hf⟩ := hr
      obtain ⟨S2, sc2, e3, x3, k3, i3⟩ := hW.gain ho hf
      injection e3 with e3 _ e4; subst e3; subst e4
      refine ⟨.tup [.own 0 0, .val (.int .i64 0)], _, ?_, x3, k3, ?_⟩
      ·rw [hv]
       simp only [Is, IsL] at i3 ⊢
       exact ⟨_, ⟨_, _, i3, ⟨_, _, rfl, rfl, rfl⟩, rfl⟩, rfl⟩
      clear hv hf hW ho x3 k3 i3 W W'
      simp only [List.nil_append]
      (refine Y_go 600 ?_; dsimp only [zq8t, Y_k, zq4u, zq8o, zq6n, Nat.reduceBEq, zq6k, YK, zq5j, zq2f, nth, zq2e, zq6l, zq9i, normF, zq6m, zq86, zq87, zq8f, zq89, zq8a, zq9y, t12n15, T12n15, zq9r, zq9q, zq55, zq0t, zq09, zq08, zq0q, zq9t, zq9v])
      refine loop_go (α := Nat × Option Addr × Nat) (fun j => 512 + j.1 ≤ max 512 first.length) (fun _ => ⟨W1, W1.heap.size, [], 161, []⟩)
       (fun j => { F := [(1, .val (.slice A2 b.length c2)), (0, .val (.slice A a.length c)), (2, .val (.slice A' first.length c')), (6, .bf), (7, .bt), (13, .val (.int .i64 ((0 : Nat) : Int))), (14, .bt), (15, .val (.int .i64 0)), (16, .val (.int .i64 ((0 : Nat) : Int))), (17, .bt), (18, .val (.int .i64 0)), (19, .own 0 0), (20, .val (.int .i64 0)), (21, .val (.int .i64 ((512 + j.1 : Nat) : Int)))], H := [.own 63 0 1 j.2.1 (512 + j.1) j.2.2 ((finL a la first 512 ++ (first.drop 512).take j.1).map uV)] }) (fun j => first.length - j.1) (fun _ => rfl) ?start ?round
      case start =>
       intro a' W rep
       refine ⟨(0, S, sc), by simp; omega, ?_⟩
       simp only [List.take_zero, List.append_nil, Nat.add_zero]
       exact rep.le (by (simp only [setn, List.nil_append, List.cons_append, leF, leH_nil, leH_cons, leF_nil, lk, scp, scpL, scpO, resF, resH, resO, resV, resVL, nth, Nat.reduceBEq, Nat.reduceLT, decide_true, decide_false, List.length, List.length_cons, List.length_nil, Nat.reduceAdd, Bool.and_self, Bool.and_true, and_true, true_and, numF] <;> try simp)) (by (simp only [setn, List.nil_append, List.cons_append, leF, leH_nil, leH_cons, leF_nil, lk, scp, scpL, scpO, resF, resH, resO, resV, resVL, nth, Nat.reduceBEq, Nat.reduceLT, decide_true, decide_false, List.length, List.length_cons, List.length_nil, Nat.reduceAdd, Bool.and_self, Bool.and_true, and_true, true_and, numF] <;> try simp))
      case round =>
       rintro ⟨j, S, sc⟩ hj I again
       simp only at hj
       (refine Y_go 600 ?_; dsimp only [zq9y, t12n8, T12n8, zq9r, zq9q, Y_k, zq4u, zq8o, zq6n, Nat.reduceBEq, zq6l, zq6k, YK, zq8t, zq55, zq0r, zq50, zq04, zq92, zq9b, zq0i, zq9e, zq9i, normF, zq6m, zq86, zq87, zq8f, zq89, zq8a, zq9s, zq6h, zq8x, YC, zq9p, t12n7, T12n7, zq9t, zq58, zq06, zq0w, zq5c, zq1p, zq1c, List.nil_append, zq1b, zq18, zq5h, List.map, zq6q, repL, List.cons_append, zq23, Nat.reduceMul, zq7u, zq73, zq0a, dropL, takeL, zq20, splice, setn, zq24, zq26, List.length_cons, List.length_nil, Nat.reduceAdd, zq5l, zq2w, nth, zq09, zq08, zq2s, zq2r, zq2n, zq2j, zq2k, zq8l, zq8m, zq8k, denL, den, zq2l, zq2h, zqa1, t12n6, T12n6, zq4w, zq8p, zq0e, zqa2, zq9u, popTo, zq6i, YP, t12n14, T12n14, zq9j])
       refine ⟨fun hlt => ?_, fun hge => ?_⟩
       ·have hlt : 512 + j < first.length := by have := of_decide_eq_true hlt; omega
        have hc : (first.map uV)[512 + j]? = some (uV first[512 + j]) := by rw [List.getElem?_map, List.getElem?_eq_getElem hlt]; rfl
        refine ⟨⟨by omega, by omega, hF1.isSome (j := 512 + j) (by simpa using hlt)⟩, first[512 + j], by rw [Int.toNat_natCast, Nat.mul_one]; exact hF1.cell hc, fun g => ⟨⟨by simp only [maxLen]; omega, by omega⟩, fun S' sc' => ?_⟩⟩
        have e1 : List.map uV (finL a la first 512 ++ List.take j (List.drop 512 first)) ++ [Value.int IntKind.u64 first[512 + j]] = (finL a la first 512 ++ (first.drop 512).take (j + 1)).map uV := by
         rw [List.take_add_one, List.getElem?_drop, List.getElem?_eq_getElem hlt]
         simp [uV]
        rw [e1, show 512 + j + 1 = 512 + (j + 1) by omega]
        refine ⟨((512 + (j + 1) : Nat) : Int), ArOk.to (by omega) (by omega) (by omega), lend_rule fun a' W rep => again (j + 1, S', sc') (by simp only; omega) (by simp only; omega) a' W ?_⟩
        exact rep.res.le (by (simp only [setn, List.nil_append, List.cons_append, leF, leH_nil, leH_cons, leF_nil, lk, scp, scpL, scpO, resF, resH, resO, resV, resVL, nth, Nat.reduceBEq, Nat.reduceLT, decide_true, decide_false, List.length, List.length_cons, List.length_nil, Nat.reduceAdd, Bool.and_self, Bool.and_true, and_true, true_and, numF] <;> try simp)) (by (simp only [setn, List.nil_append, List.cons_append, leF, leH_nil, leH_cons, leF_nil, lk, scp, scpL, scpO, resF, resH, resO, resV, resVL, nth, Nat.reduceBEq, Nat.reduceLT, decide_true, decide_false, List.length, List.length_cons, List.length_nil, Nat.reduceAdd, Bool.and_self, Bool.and_true, and_true, true_and, numF] <;> try simp))
       ·have hge : ¬ 512 + j < first.length := by have := of_decide_eq_false hge; omega
        have ej : finL a la first 512 ++ (first.drop 512).take j = leftL 512 a la first := by
         rw [List.take_of_length_le (by rw [List.length_drop]; omega)]; rfl
        have el : 512 + j = (leftL 512 a la first).length := by
         unfold leftL; rw [List.length_append, List.length_map, List.length_range, List.length_drop]; omega
        rw [ej, el]
        have hll : (leftL 512 a la first).length ≤ 2000 := by rw [← el]; have : max 512 first.length ≤ 600 := by omega
                                                              omega
        refine G.le (E' := ⟨W1, W1.heap.size, [], 161, []⟩) rfl (s' := { F := [(114, .val (.slice S (leftL 512 a la first).length sc)), (113, .val (.slice A2 b.length c2)), (0, .val (.slice A a.length c)), (6, .bf), (7, .bt), (13, .val (.int .i64 ((0 : Nat) : Int))), (14, .bt), (15, .val (.int .i64 0)), (16, .val (.int .i64 ((0 : Nat) : Int))), (17, .bt), (18, .val (.int .i64 0)), (20, .val (.int .i64 0))], H := [] ++ [.own 63 0 1 S (leftL 512 a la first).length sc ((leftL 512 a la first).map uV)] }) (fun a' W rep => (rep.plain 114 (i := 0) rfl rfl).le (by (simp only [setn, List.nil_append, List.cons_append, leF, leH_nil, leH_cons, leF_nil, lk, scp, scpL, scpO, resF, resH, resO, resV, resVL, nth, Nat.reduceBEq, Nat.reduceLT, decide_true, decide_false, List.length, List.length_cons, List.length_nil, Nat.reduceAdd, Bool.and_self, Bool.and_true, and_true, true_and, numF] <;> try simp)) (by (simp only [setn, List.nil_append, List.cons_append, leF, leH_nil, leH_cons, leF_nil, lk, scp, scpL, scpO, resF, resH, resO, resV, resVL, nth, Nat.reduceBEq, Nat.reduceLT, decide_true, decide_false, List.length, List.length_cons, List.length_nil, Nat.reduceAdd, Bool.and_self, Bool.and_true, and_true, true_and, numF] <;> try simp))) ?_
        refine G.cut (H1 := []) (r := [.own 63 0 1 S (leftL 512 a la first).length sc ((leftL 512 a la first).map uV)]) rfl (by (simp only [setn, List.nil_append, List.cons_append, leF, leH_nil, leH_cons, leF_nil, lk, scp, scpL, scpO, resF, resH, resO, resV, resVL, nth, Nat.reduceBEq, Nat.reduceLT, decide_true, decide_false, List.length, List.length_cons, List.length_nil, Nat.reduceAdd, Bool.and_self, Bool.and_true, and_true, true_and, numF] <;> try simp)) fun W2 hW2 hov2 => ?_
        have hS : RowAt W2 S ((leftL 512 a la first).map uV) := hW2.rowAt' (i := 0) (t := 63) (ver := 0) (sz := 1) (n := (leftL 512 a la first).length) (c := sc) rfl
        have nil2 : HeapOk ⟨W2, W2.heap.size, fps [], 161, []⟩ [] W2 := heapOk_nil (w := W2) (N := W2.heap.size) (Nat.le_refl _) (fps []) 161 []
        have hB2 : RowAt W2 A2 (cellsE b) := ((rowE0 hB1 161 []).over hov2).at nil2
        have hf2 : Fresh W1 W2 := (hov2.heap nil2).fresh'
        clear hW2 hov2 nil2
        show G _ ⟨W2, W2.heap.size, [], 161, []⟩ _ _
        refine call_val (R := fun v => v = judV (frst (badAt b lb (begL (leftL 512 a la first))) b.length)) (vs := [.slice A2 b.length c2, .slice S (leftL 512 a la first).length sc]) rfl (fun W hW => hjud (by omega) (by omega) hsb (hB2.keep hW.fresh') (hS.keep hW.fresh')) fun v hv => ⟨judS (frst (badAt b lb (begL (leftL 512 a la first))) b.length), by rw [hv]; exact judS_is _ _, ?_⟩
        rw [hq2]
        dsimp only [judS, Option.getD, Option.isNone, bsv]
        have done : ∀ s, denAll s.H s.F [6] = some [.bool true] → RetG (cxOf Try.prog Try.f12 K12 T12 R) ⟨W2, W2.heap.size, [], 161, []⟩ s := fun s hs =>
         ret_rule (vs := [.bool true]) r12 rfl hs fun W hW => hR _ _ ⟨rfl, hf1.tr (hf2.tr hW.fresh')⟩
        (refine Y_go 600 ?_; dsimp only [zq8t, Y_k, zq4u, zq8o, zq6n, Nat.reduceBEq, zq6k, YK, zq5j, zq2f, nth, zq2e, zq6l, zq9i, normF, zq6m, zq86, zq87, zq89, zq8a, zq9y, t12n13, T12n13, zq9r, zq9q, zq50, zq8p, zq6q, zq04, zq92, zq9b, zq0i, zq9d, Y_gk, zq6e, YS, zq6a, zq4v, zq6o, zq0b, zq02, zq9s, zq6f, YC, t12n9, T12n9, zq6p, zq9x, YR, zq6c, zq0c, zq69, zq51, zq8u, zq0j, zq6h, zq8x, zq9p, t12n12, T12n12, zq53, zq0m, zq6g, t12n11, T12n11])
        repeat' first
         | (refine ⟨fun q => ?_, fun q => ?_⟩ <;> first | (exfalso; revert q; decide) | skip)
         | exact done _ rfl
         | exact done _ (congrArg (fun b => some [Value.bool b]) (beq_self_eq_true _))
         | (have hk2 := (frst_some hq2).1
            refine ⟨((a.length + k2 : Nat) : Int), ArOk.to (by omega) (by omega) (by omega), ?_⟩)
     ·refine call_val (R := fun v => v = judV (frst (badAt (a ++ b) (la ++ lb.map (upA a.length)) (begL first)) (a ++ b).length)) (vs := [.slice D (a ++ b).length dc, .slice A' first.length c']) rfl (fun W hW => hjud (by simp; omega) (by omega) p1 (hO.keep hW.fresh') (hF1.keep hW.fresh')) fun v hv => ⟨judS (frst (badAt (a ++ b) (la ++ lb.map (upA a.length)) (begL first)) (a ++ b).length), by rw [hv]; exact judS_is _ _, ?_⟩
      rw [hq3]
      dsimp only [judS, Option.getD, Option.isNone, bsv]
      (refine Y_go 600 ?_; dsimp only [zq8t, Y_k, zq4u, zq8o, zq6n, Nat.reduceBEq, zq6k, YK, zq5j, zq2f, nth, zq2e, zq6l, zq9i, normF, zq6m, zq86, zq87, zq8a, zq89, zq9y, t12n17, T12n17, zq9r, zq9q, zq9j])
      refine call_val (R := fun v => v = judV (frst (badAt a la (begL first)) a.length)) (vs := [.slice A a.length c, .slice A' first.length c']) rfl (fun W hW => hjud (by omega) (by omega) hsa (hA1.keep hW.fresh') (hF1.keep hW.fresh')) fun v hv => ⟨judS (frst (badAt a la (begL first)) a.length), by rw [hv]; exact judS_is _ _, ?_⟩
      rw [hq1]
      dsimp only [judS, Option.getD, Option.isNone, bsv]
      (refine Y_go 600 ?_; dsimp only [zq8t, Y_k, zq4u, zq8o, zq6n, Nat.reduceBEq, zq6k, YK, zq5j, zq2f, nth, zq2e, zq6l, zq9i, normF, zq6m, zq86, zq87, zq89, zq8a, zq9y, t12n16, T12n16, zq9r, zq9q, zq9j])
      refine call_rule (vs := [.slice A a.length c, .slice A' first.length c', .int .i64 512]) rfl (R := fun W v w' => ∃ (S : Option Addr) (sc : Nat), v = .tuple #[.slice S 512 sc, .int .i64 0] ∧ World.ownsB w' W.heap.size 63 1 (.slice S 512 sc) 512 ((finL a la first 512).map uV) ∧ Fresh W w') (fun W hW => (final41 A A' c c' a first 512 W (hA1.keep hW.fresh') (hF1.keep hW.fresh') (by omega) (by omega)).mono ?_) fun W v W' hW hr => ?_
      ·rintro v W' ⟨⟨q1, _⟩ | ⟨_, _, l', S, sc, q1, q2, q4⟩, q3⟩
       ·rcases q1 with q1 | q1
        ·rw [hsa] at q1; cases q1
        ·omega
       ·rw [hsa] at q1; injection q1 with q1; subst q1
        exact ⟨S, sc, q2, q4, q3⟩
      obtain ⟨S, sc, hv, ho, hf⟩ := hr
      obtain ⟨S2, sc2, e3, x3, k3, i3⟩ := hW.gain ho hf
      injection e3 with e3 _ e4; subst e3; subst e4
      refine ⟨.tup [.own 0 0, .val (.int .i64 0)], _, ?_, x3, k3, ?_⟩
      ·rw [hv]
       simp only [Is, IsL] at i3 ⊢
       exact ⟨_, ⟨_, _, i3, ⟨_, _, rfl, rfl, rfl⟩, rfl⟩, rfl⟩
      clear hv hf hW ho x3 k3 i3 W W'
      simp only [List.nil_append]
      (refine Y_go 600 ?_; dsimp only [zq8t, Y_k, zq4u, zq8o, zq6n, Nat.reduceBEq, zq6k, YK, zq5j, zq2f, nth, zq2e, zq6l, zq9i, normF, zq6m, zq86, zq87, zq8f, zq89, zq8a, zq9y, t12n15, T12n15, zq9r, zq9q, zq55, zq0t, zq09, zq08, zq0q, zq9t, zq9v])
      refine loop_go (α := Nat × Option Addr × Nat) (fun j => 512 + j.1 ≤ max 512 first.length) (fun _ => ⟨W1, W1.heap.size, [], 161, []⟩)
       (fun j => { F := [(1, .val (.slice A2 b.length c2)), (0, .val (.slice A a.length c)), (2, .val (.slice A' first.length c')), (6, .bf), (7, .bt), (13, .val (.int .i64 ((a.length + k2 : Nat) : Int))), (14, .bf), (15, .val (.int .i64 0)), (16, .val (.int .i64 ((0 : Nat) : Int))), (17, .bt), (18, .val (.int .i64 0)), (19, .own 0 0), (20, .val (.int .i64 0)), (21, .val (.int .i64 ((512 + j.1 : Nat) : Int)))], H := [.own 63 0 1 j.2.1 (512 + j.1) j.2.2 ((finL a la first 512 ++ (first.drop 512).take j.1).map uV)] }) (fun j => first.length - j.1) (fun _ => rfl) ?start ?round
      case start =>
       intro a' W rep
       refine ⟨(0, S, sc), by simp; omega, ?_⟩
       simp only [List.take_zero, List.append_nil, Nat.add_zero]
       exact rep.le (by (simp only [setn, List.nil_append, List.cons_append, leF, leH_nil, leH_cons, leF_nil, lk, scp, scpL, scpO, resF, resH, resO, resV, resVL, nth, Nat.reduceBEq, Nat.reduceLT, decide_true, decide_false, List.length, List.length_cons, List.length_nil, Nat.reduceAdd, Bool.and_self, Bool.and_true, and_true, true_and, numF] <;> try simp)) (by (simp only [setn, List.nil_append, List.cons_append, leF, leH_nil, leH_cons, leF_nil, lk, scp, scpL, scpO, resF, resH, resO, resV, resVL, nth, Nat.reduceBEq, Nat.reduceLT, decide_true, decide_false, List.length, List.length_cons, List.length_nil, Nat.reduceAdd, Bool.and_self, Bool.and_true, and_true, true_and, numF] <;> try simp))
      case round =>
       rintro ⟨j, S, sc⟩ hj I again
       simp only at hj
       (refine Y_go 600 ?_; dsimp only [zq9y, t12n8, T12n8, zq9r, zq9q, Y_k, zq4u, zq8o, zq6n, Nat.reduceBEq, zq6l, zq6k, YK, zq8t, zq55, zq0r, zq50, zq04, zq92, zq9b, zq0i, zq9e, zq9i, normF, zq6m, zq86, zq87, zq8f, zq89, zq8a, zq9s, zq6h, zq8x, YC, zq9p, t12n7, T12n7, zq9t, zq58, zq06, zq0w, zq5c, zq1p, zq1c, List.nil_append, zq1b, zq18, zq5h, List.map, zq6q, repL, List.cons_append, zq23, Nat.reduceMul, zq7u, zq73, zq0a, dropL, takeL, zq20, splice, setn, zq24, zq26, List.length_cons, List.length_nil, Nat.reduceAdd, zq5l, zq2w, nth, zq09, zq08, zq2s, zq2r, zq2n, zq2j, zq2k, zq8l, zq8m, zq8k, denL, den, zq2l, zq2h, zqa1, t12n6, T12n6, zq4w, zq8p, zq0e, zqa2, zq9u, popTo, zq6i, YP, t12n14, T12n14, zq9j])
       refine ⟨fun hlt => ?_, fun hge => ?_⟩
       ·have hlt : 512 + j < first.length := by have := of_decide_eq_true hlt; omega
        have hc : (first.map uV)[512 + j]? = some (uV first[512 + j]) := by rw [List.getElem?_map, List.getElem?_eq_getElem hlt]; rfl
        refine ⟨⟨by omega, by omega, hF1.isSome (j := 512 + j) (by simpa using hlt)⟩, first[512 + j], by rw [Int.toNat_natCast, Nat.mul_one]; exact hF1.cell hc, fun g => ⟨⟨by simp only [maxLen]; omega, by omega⟩, fun S' sc' => ?_⟩⟩
        have e1 : List.map uV (finL a la first 512 ++ List.take j (List.drop 512 first)) ++ [Value.int IntKind.u64 first[512 + j]] = (finL a la first 512 ++ (first.drop 512).take (j + 1)).map uV := by
         rw [List.take_add_one, List.getElem?_drop, List.getElem?_eq_getElem hlt]
         simp [uV]
        rw [e1, show 512 + j + 1 = 512 + (j + 1) by omega]
        refine ⟨((512 + (j + 1) : Nat) : Int), ArOk.to (by omega) (by omega) (by omega), lend_rule fun a' W rep => again (j + 1, S', sc') (by simp only; omega) (by simp only; omega) a' W ?_⟩
        exact rep.res.le (by (simp only [setn, List.nil_append, List.cons_append, leF, leH_nil, leH_cons, leF_nil, lk, scp, scpL, scpO, resF, resH, resO, resV, resVL, nth, Nat.reduceBEq, Nat.reduceLT, decide_true, decide_false, List.length, List.length_cons, List.length_nil, Nat.reduceAdd, Bool.and_self, Bool.and_true, and_true, true_and, numF] <;> try simp)) (by (simp only [setn, List.nil_append, List.cons_append, leF, leH_nil, leH_cons, leF_nil, lk, scp, scpL, scpO, resF, resH, resO, resV, resVL, nth, Nat.reduceBEq, Nat.reduceLT, decide_true, decide_false, List.length, List.length_cons, List.length_nil, Nat.reduceAdd, Bool.and_self, Bool.and_true, and_true, true_and, numF] <;> try simp))
       ·have hge : ¬ 512 + j < first.length := by have := of_decide_eq_false hge; omega
        have ej : finL a la first 512 ++ (first.drop 512).take j = leftL 512 a la first := by
         rw [List.take_of_length_le (by rw [List.length_drop]; omega)]; rfl
        have el : 512 + j = (leftL 512 a la first).length := by
         unfold leftL; rw [List.length_append, List.length_map, List.length_range, List.length_drop]; omega
        rw [ej, el]
        have hll : (leftL 512 a la first).length ≤ 2000 := by rw [← el]; have : max 512 first.length ≤ 600 := by omega
                                                              omega
        refine G.le (E' := ⟨W1, W1.heap.size, [], 161, []⟩) rfl (s' := { F := [(114, .val (.slice S (leftL 512 a la first).length sc)), (113, .val (.slice A2 b.length c2)), (0, .val (.slice A a.length c)), (6, .bf), (7, .bt), (13, .val (.int .i64 ((a.length + k2 : Nat) : Int))), (14, .bf), (15, .val (.int .i64 0)), (16, .val (.int .i64 ((0 : Nat) : Int))), (17, .bt), (18, .val (.int .i64 0)), (20, .val (.int .i64 0))], H := [] ++ [.own 63 0 1 S (leftL 512 a la first).length sc ((leftL 512 a la first).map uV)] }) (fun a' W rep => (rep.plain 114 (i := 0) rfl rfl).le (by (simp only [setn, List.nil_append, List.cons_append, leF, leH_nil, leH_cons, leF_nil, lk, scp, scpL, scpO, resF, resH, resO, resV, resVL, nth, Nat.reduceBEq, Nat.reduceLT, decide_true, decide_false, List.length, List.length_cons, List.length_nil, Nat.reduceAdd, Bool.and_self, Bool.and_true, and_true, true_and, numF] <;> try simp)) (by (simp only [setn, List.nil_append, List.cons_append, leF, leH_nil, leH_cons, leF_nil, lk, scp, scpL, scpO, resF, resH, resO, resV, resVL, nth, Nat.reduceBEq, Nat.reduceLT, decide_true, decide_false, List.length, List.length_cons, List.length_nil, Nat.reduceAdd, Bool.and_self, Bool.and_true, and_true, true_and, numF] <;> try simp))) ?_
        refine G.cut (H1 := []) (r := [.own 63 0 1 S (leftL 512 a la first).length sc ((leftL 512 a la first).map uV)]) rfl (by (simp only [setn, List.nil_append, List.cons_append, leF, leH_nil, leH_cons, leF_nil, lk, scp, scpL, scpO, resF, resH, resO, resV, resVL, nth, Nat.reduceBEq, Nat.reduceLT, decide_true, decide_false, List.length, List.length_cons, List.length_nil, Nat.reduceAdd, Bool.and_self, Bool.and_true, and_true, true_and, numF] <;> try simp)) fun W2 hW2 hov2 => ?_
        have hS : RowAt W2 S ((leftL 512 a la first).map uV) := hW2.rowAt' (i := 0) (t := 63) (ver := 0) (sz := 1) (n := (leftL 512 a la first).length) (c := sc) rfl
        have nil2 : HeapOk ⟨W2, W2.heap.size, fps [], 161, []⟩ [] W2 := heapOk_nil (w := W2) (N := W2.heap.size) (Nat.le_refl _) (fps []) 161 []
        have hB2 : RowAt W2 A2 (cellsE b) := ((rowE0 hB1 161 []).over hov2).at nil2
        have hf2 : Fresh W1 W2 := (hov2.heap nil2).fresh'
        clear hW2 hov2 nil2
        show G _ ⟨W2, W2.heap.size, [], 161, []⟩ _ _
        refine call_val (R := fun v => v = judV (frst (badAt b lb (begL (leftL 512 a la first))) b.length)) (vs := [.slice A2 b.length c2, .slice S (leftL 512 a la first).length sc]) rfl (fun W hW => hjud (by omega) (by omega) hsb (hB2.keep hW.fresh') (hS.keep hW.fresh')) fun v hv => ⟨judS (frst (badAt b lb (begL (leftL 512 a la first))) b.length), by rw [hv]; exact judS_is _ _, ?_⟩
        rw [hq2]
        dsimp only [judS, Option.getD, Option.isNone, bsv]
        have done : ∀ s, denAll s.H s.F [6] = some [.bool true] → RetG (cxOf Try.prog Try.f12 K12 T12 R) ⟨W2, W2.heap.size, [], 161, []⟩ s := fun s hs =>
         ret_rule (vs := [.bool true]) r12 rfl hs fun W hW => hR _ _ ⟨rfl, hf1.tr (hf2.tr hW.fresh')⟩
        (refine Y_go 600 ?_; dsimp only [zq8t, Y_k, zq4u, zq8o, zq6n, Nat.reduceBEq, zq6k, YK, zq5j, zq2f, nth, zq2e, zq6l, zq9i, normF, zq6m, zq86, zq87, zq8a, zq89, zq9y, t12n13, T12n13, zq9r, zq9q, zq50, zq8p, zq6q, zq04, zq92, zq9b, zq0i, zq9d, Y_gk, zq6e, YS, zq6a, zq4v, zq6o, zq0b, zq02, zq9s, zq6f, YC, t12n9, T12n9, zq6p, zq9x, YR, zq6c, zq0c, zq69, zq51, zq8v, zq0j, zq6h, zq8x, zq9p, t12n12, T12n12, zq53, zq0m, zq6g, t12n11, T12n11, zq55, zq0r, zq4w, zq0e, zq9c])
        repeat' first
         | (refine ⟨fun q => ?_, fun q => ?_⟩ <;> first | (exfalso; revert q; decide) | skip)
         | exact done _ rfl
         | exact done _ (congrArg (fun b => some [Value.bool b]) (beq_self_eq_true _))
         | (have hk2 := (frst_some hq2).1
            refine ⟨((a.length + k2 : Nat) : Int), ArOk.to (by omega) (by omega) (by omega), ?_⟩)
     ·refine call_val (R := fun v => v = judV (frst (badAt (a ++ b) (la ++ lb.map (upA a.length)) (begL first)) (a ++ b).length)) (vs := [.slice D (a ++ b).length dc, .slice A' first.length c']) rfl (fun W hW => hjud (by simp; omega) (by omega) p1 (hO.keep hW.fresh') (hF1.keep hW.fresh')) fun v hv => ⟨judS (frst (badAt (a ++ b) (la ++ lb.map (upA a.length)) (begL first)) (a ++ b).length), by rw [hv]; exact judS_is _ _, ?_⟩
      rw [hq3]
      dsimp only [judS, Option.getD, Option.isNone, bsv]
      (refine Y_go 600 ?_; dsimp only [zq8t, Y_k, zq4u, zq8o, zq6n, Nat.reduceBEq, zq6k, YK, zq5j, zq2f, nth, zq2e, zq6l, zq9i, normF, zq6m, zq86, zq87, zq8a, zq89, zq9y, t12n17, T12n17, zq9r, zq9q, zq9j])
      refine call_val (R := fun v => v = judV (frst (badAt a la (begL first)) a.length)) (vs := [.slice A a.length c, .slice A' first.length c']) rfl (fun W hW => hjud (by omega) (by omega) hsa (hA1.keep hW.fresh') (hF1.keep hW.fresh')) fun v hv => ⟨judS (frst (badAt a la (begL first)) a.length), by rw [hv]; exact judS_is _ _, ?_⟩
      rw [hq1]
      dsimp only [judS, Option.getD, Option.isNone, bsv]
      (refine Y_go 600 ?_; dsimp only [zq8t, Y_k, zq4u, zq8o, zq6n, Nat.reduceBEq, zq6k, YK, zq5j, zq2f, nth, zq2e, zq6l, zq9i, normF, zq6m, zq86, zq87, zq8a, zq89, zq9y, t12n16, T12n16, zq9r, zq9q, zq9j])
      refine call_rule (vs := [.slice A a.length c, .slice A' first.length c', .int .i64 512]) rfl (R := fun W v w' => ∃ (S : Option Addr) (sc : Nat), v = .tuple #[.slice S 512 sc, .int .i64 0] ∧ World.ownsB w' W.heap.size 63 1 (.slice S 512 sc) 512 ((finL a la first 512).map uV) ∧ Fresh W w') (fun W hW => (final41 A A' c c' a first 512 W (hA1.keep hW.fresh') (hF1.keep hW.fresh') (by omega) (by omega)).mono ?_) fun W v W' hW hr => ?_
      ·rintro v W' ⟨⟨q1, _⟩ | ⟨_, _, l', S, sc, q1, q2, q4⟩, q3⟩
       ·rcases q1 with q1 | q1
        ·rw [hsa] at q1; cases q1
        ·omega
       ·rw [hsa] at q1; injection q1 with q1; subst q1
        exact ⟨S, sc, q2, q4, q3⟩
      obtain ⟨S, sc, hv, ho, hf⟩ := hr
      obtain ⟨S2, sc2, e3, x3, k3, i3⟩ := hW.gain ho hf
      injection e3 with e3 _ e4; subst e3; subst e4
      refine ⟨.tup [.own 0 0, .val (.int .i64 0)], _, ?_, x3, k3, ?_⟩
      ·rw [hv]
       simp only [Is, IsL] at i3 ⊢
       exact ⟨_, ⟨_, _, i3, ⟨_, _, rfl, rfl, rfl⟩, rfl⟩, rfl⟩
      clear hv hf hW ho x3 k3 i3 W W'
      simp only [List.nil_append]
      (refine Y_go 600 ?_; dsimp only [zq8t, Y_k, zq4u, zq8o, zq6n, Nat.reduceBEq, zq6k, YK, zq5j, zq2f, nth, zq2e, zq6l, zq9i, normF, zq6m, zq86, zq87, zq8f, zq8a, zq89, zq9y, t12n15, T12n15, zq9r, zq9q, zq55, zq0t, zq09, zq08, zq0q, zq9t, zq9v])
      refine loop_go (α := Nat × Option Addr × Nat) (fun j => 512 + j.1 ≤ max 512 first.length) (fun _ => ⟨W1, W1.heap.size, [], 161, []⟩)
       (fun j => { F := [(1, .val (.slice A2 b.length c2)), (0, .val (.slice A a.length c)), (2, .val (.slice A' first.length c')), (6, .bf), (7, .bt), (13, .val (.int .i64 ((k1 : Nat) : Int))), (14, .bf), (15, .val (.int .i64 0)), (16, .val (.int .i64 ((k1 : Nat) : Int))), (17, .bf), (18, .val (.int .i64 0)), (19, .own 0 0), (20, .val (.int .i64 0)), (21, .val (.int .i64 ((512 + j.1 : Nat) : Int)))], H := [.own 63 0 1 j.2.1 (512 + j.1) j.2.2 ((finL a la first 512 ++ (first.drop 512).take j.1).map uV)] }) (fun j => first.length - j.1) (fun _ => rfl) ?start ?round
      case start =>
       intro a' W rep
       refine ⟨(0, S, sc), by simp; omega, ?_⟩
       simp only [List.take_zero, List.append_nil, Nat.add_zero]
       exact rep.le (by (simp only [setn, List.nil_append, List.cons_append, leF, leH_nil, leH_cons, leF_nil, lk, scp, scpL, scpO, resF, resH, resO, resV, resVL, nth, Nat.reduceBEq, Nat.reduceLT, decide_true, decide_false, List.length, List.length_cons, List.length_nil, Nat.reduceAdd, Bool.and_self, Bool.and_true, and_true, true_and, numF] <;> try simp)) (by (simp only [setn, List.nil_append, List.cons_append, leF, leH_nil, leH_cons, leF_nil, lk, scp, scpL, scpO, resF, resH, resO, resV, resVL, nth, Nat.reduceBEq, Nat.reduceLT, decide_true, decide_false, List.length, List.length_cons, List.length_nil, Nat.reduceAdd, Bool.and_self, Bool.and_true, and_true, true_and, numF] <;> try simp))
      case round =>
       rintro ⟨j, S, sc⟩ hj I again
       simp only at hj
       (refine Y_go 600 ?_; dsimp only [zq9y, t12n8, T12n8, zq9r, zq9q, Y_k, zq4u, zq8o, zq6n, Nat.reduceBEq, zq6l, zq6k, YK, zq8t, zq55, zq0r, zq50, zq04, zq92, zq9b, zq0i, zq9e, zq9i, normF, zq6m, zq86, zq87, zq8f, zq8a, zq89, zq9s, zq6h, zq8x, YC, zq9p, t12n7, T12n7, zq9t, zq58, zq06, zq0w, zq5c, zq1p, zq1c, List.nil_append, zq1b, zq18, zq5h, List.map, zq6q, repL, List.cons_append, zq23, Nat.reduceMul, zq7u, zq73, zq0a, dropL, takeL, zq20, splice, setn, zq24, zq26, List.length_cons, List.length_nil, Nat.reduceAdd, zq5l, zq2w, nth, zq09, zq08, zq2s, zq2r, zq2n, zq2j, zq2k, zq8l, zq8m, zq8k, denL, den, zq2l, zq2h, zqa1, t12n6, T12n6, zq4w, zq8p, zq0e, zqa2, zq9u, popTo, zq6i, YP, t12n14, T12n14, zq9j])
       refine ⟨fun hlt => ?_, fun hge => ?_⟩
       ·have hlt : 512 + j < first.length := by have := of_decide_eq_true hlt; omega
        have hc : (first.map uV)[512 + j]? = some (uV first[512 + j]) := by rw [List.getElem?_map, List.getElem?_eq_getElem hlt]; rfl
        refine ⟨⟨by omega, by omega, hF1.isSome (j := 512 + j) (by simpa using hlt)⟩, first[512 + j], by rw [Int.toNat_natCast, Nat.mul_one]; exact hF1.cell hc, fun g => ⟨⟨by simp only [maxLen]; omega, by omega⟩, fun S' sc' => ?_⟩⟩
        have e1 : List.map uV (finL a la first 512 ++ List.take j (List.drop 512 first)) ++ [Value.int IntKind.u64 first[512 + j]] = (finL a la first 512 ++ (first.drop 512).take (j + 1)).map uV := by
         rw [List.take_add_one, List.getElem?_drop, List.getElem?_eq_getElem hlt]
         simp [uV]
        rw [e1, show 512 + j + 1 = 512 + (j + 1) by omega]
        refine ⟨((512 + (j + 1) : Nat) : Int), ArOk.to (by omega) (by omega) (by omega), lend_rule fun a' W rep => again (j + 1, S', sc') (by simp only; omega) (by simp only; omega) a' W ?_⟩
        exact rep.res.le (by (simp only [setn, List.nil_append, List.cons_append, leF, leH_nil, leH_cons, leF_nil, lk, scp, scpL, scpO, resF, resH, resO, resV, resVL, nth, Nat.reduceBEq, Nat.reduceLT, decide_true, decide_false, List.length, List.length_cons, List.length_nil, Nat.reduceAdd, Bool.and_self, Bool.and_true, and_true, true_and, numF] <;> try simp)) (by (simp only [setn, List.nil_append, List.cons_append, leF, leH_nil, leH_cons, leF_nil, lk, scp, scpL, scpO, resF, resH, resO, resV, resVL, nth, Nat.reduceBEq, Nat.reduceLT, decide_true, decide_false, List.length, List.length_cons, List.length_nil, Nat.reduceAdd, Bool.and_self, Bool.and_true, and_true, true_and, numF] <;> try simp))
       ·have hge : ¬ 512 + j < first.length := by have := of_decide_eq_false hge; omega
        have ej : finL a la first 512 ++ (first.drop 512).take j = leftL 512 a la first := by
         rw [List.take_of_length_le (by rw [List.length_drop]; omega)]; rfl
        have el : 512 + j = (leftL 512 a la first).length := by
         unfold leftL; rw [List.length_append, List.length_map, List.length_range, List.length_drop]; omega
        rw [ej, el]
        have hll : (leftL 512 a la first).length ≤ 2000 := by rw [← el]; have : max 512 first.length ≤ 600 := by omega
                                                              omega
        refine G.le (E' := ⟨W1, W1.heap.size, [], 161, []⟩) rfl (s' := { F := [(114, .val (.slice S (leftL 512 a la first).length sc)), (113, .val (.slice A2 b.length c2)), (0, .val (.slice A a.length c)), (6, .bf), (7, .bt), (13, .val (.int .i64 ((k1 : Nat) : Int))), (14, .bf), (15, .val (.int .i64 0)), (16, .val (.int .i64 ((k1 : Nat) : Int))), (17, .bf), (18, .val (.int .i64 0)), (20, .val (.int .i64 0))], H := [] ++ [.own 63 0 1 S (leftL 512 a la first).length sc ((leftL 512 a la first).map uV)] }) (fun a' W rep => (rep.plain 114 (i := 0) rfl rfl).le (by (simp only [setn, List.nil_append, List.cons_append, leF, leH_nil, leH_cons, leF_nil, lk, scp, scpL, scpO, resF, resH, resO, resV, resVL, nth, Nat.reduceBEq, Nat.reduceLT, decide_true, decide_false, List.length, List.length_cons, List.length_nil, Nat.reduceAdd, Bool.and_self, Bool.and_true, and_true, true_and, numF] <;> try simp)) (by (simp only [setn, List.nil_append, List.cons_append, leF, leH_nil, leH_cons, leF_nil, lk, scp, scpL, scpO, resF, resH, resO, resV, resVL, nth, Nat.reduceBEq, Nat.reduceLT, decide_true, decide_false, List.length, List.length_cons, List.length_nil, Nat.reduceAdd, Bool.and_self, Bool.and_true, and_true, true_and, numF] <;> try simp))) ?_
        refine G.cut (H1 := []) (r := [.own 63 0 1 S (leftL 512 a la first).length sc ((leftL 512 a la first).map uV)]) rfl (by (simp only [setn, List.nil_append, List.cons_append, leF, leH_nil, leH_cons, leF_nil, lk, scp, scpL, scpO, resF, resH, resO, resV, resVL, nth, Nat.reduceBEq, Nat.reduceLT, decide_true, decide_false, List.length, List.length_cons, List.length_nil, Nat.reduceAdd, Bool.and_self, Bool.and_true, and_true, true_and, numF] <;> try simp)) fun W2 hW2 hov2 => ?_
        have hS : RowAt W2 S ((leftL 512 a la first).map uV) := hW2.rowAt' (i := 0) (t := 63) (ver := 0) (sz := 1) (n := (leftL 512 a la first).length) (c := sc) rfl
        have nil2 : HeapOk ⟨W2, W2.heap.size, fps [], 161, []⟩ [] W2 := heapOk_nil (w := W2) (N := W2.heap.size) (Nat.le_refl _) (fps []) 161 []
        have hB2 : RowAt W2 A2 (cellsE b) := ((rowE0 hB1 161 []).over hov2).at nil2
        have hf2 : Fresh W1 W2 := (hov2.heap nil2).fresh'
        clear hW2 hov2 nil2
        show G _ ⟨W2, W2.heap.size, [], 161, []⟩ _ _
        refine call_val (R := fun v => v = judV (frst (badAt b lb (begL (leftL 512 a la first))) b.length)) (vs := [.slice A2 b.length c2, .slice S (leftL 512 a la first).length sc]) rfl (fun W hW => hjud (by omega) (by omega) hsb (hB2.keep hW.fresh') (hS.keep hW.fresh')) fun v hv => ⟨judS (frst (badAt b lb (begL (leftL 512 a la first))) b.length), by rw [hv]; exact judS_is _ _, ?_⟩
        rw [hq2]
        dsimp only [judS, Option.getD, Option.isNone, bsv]
        have done : ∀ s, denAll s.H s.F [6] = some [.bool true] → RetG (cxOf Try.prog Try.f12 K12 T12 R) ⟨W2, W2.heap.size, [], 161, []⟩ s := fun s hs =>
         ret_rule (vs := [.bool true]) r12 rfl hs fun W hW => hR _ _ ⟨rfl, hf1.tr (hf2.tr hW.fresh')⟩
        (refine Y_go 600 ?_; dsimp only [zq8t, Y_k, zq4u, zq8o, zq6n, Nat.reduceBEq, zq6k, YK, zq5j, zq2f, nth, zq2e, zq6l, zq9i, normF, zq6m, zq86, zq87, zq89, zq8a, zq9y, t12n13, T12n13, zq9r, zq9q, zq50, zq8p, zq6q, zq04, zq92, zq9b, zq0i, zq9d, Y_gk, zq6e, YS, zq6a, zq4v, zq6o, zq0b, zq02, zq9s, zq6f, YC, t12n9, T12n9, zq6p, zq9x, YR, zq6c, zq0c, zq6b, zq51, zq8v, zq0j, zq6h, zq8x, zq9p, t12n12, T12n12, zq53, zq0n, t12n10, T12n10, zq69, zq9c])
        repeat' first
         | (refine ⟨fun q => ?_, fun q => ?_⟩ <;> first | (exfalso; revert q; decide) | skip)
         | exact done _ rfl
         | exact done _ (congrArg (fun b => some [Value.bool b]) (beq_self_eq_true _))
         | (have hk2 := (frst_some hq2).1
            refine ⟨((a.length + k2 : Nat) : Int), ArOk.to (by omega) (by omega) (by omega), ?_⟩)
     ·refine call_val (R := fun v => v = judV (frst (badAt (a ++ b) (la ++ lb.map (upA a.length)) (begL first)) (a ++ b).length)) (vs := [.slice D (a ++ b).length dc, .slice A' first.length c']) rfl (fun W hW => hjud (by simp; omega) (by omega) p1 (hO.keep hW.fresh') (hF1.keep hW.fresh')) fun v hv => ⟨judS (frst (badAt (a ++ b) (la ++ lb.map (upA a.length)) (begL first)) (a ++ b).length), by rw [hv]; exact judS_is _ _, ?_⟩
      rw [hq3]
      dsimp only [judS, Option.getD, Option.isNone, bsv]
      (refine Y_go 600 ?_; dsimp only [zq8t, Y_k, zq4u, zq8o, zq6n, Nat.reduceBEq, zq6k, YK, zq5j, zq2f, nth, zq2e, zq6l, zq9i, normF, zq6m, zq86, zq87, zq8a, zq89, zq9y, t12n17, T12n17, zq9r, zq9q, zq9j])
      refine call_val (R := fun v => v = judV (frst (badAt a la (begL first)) a.length)) (vs := [.slice A a.length c, .slice A' first.length c']) rfl (fun W hW => hjud (by omega) (by omega) hsa (hA1.keep hW.fresh') (hF1.keep hW.fresh')) fun v hv => ⟨judS (frst (badAt a la (begL first)) a.length), by rw [hv]; exact judS_is _ _, ?_⟩
      rw [hq1]
      dsimp only [judS, Option.getD, Option.isNone, bsv]
      (refine Y_go 600 ?_; dsimp only [zq8t, Y_k, zq4u, zq8o, zq6n, Nat.reduceBEq, zq6k, YK, zq5j, zq2f, nth, zq2e, zq6l, zq9i, normF, zq6m, zq86, zq87, zq8a, zq89, zq9y, t12n16, T12n16, zq9r, zq9q, zq9j])
      refine call_rule (vs := [.slice A a.length c, .slice A' first.length c', .int .i64 512]) rfl (R := fun W v w' => ∃ (S : Option Addr) (sc : Nat), v = .tuple #[.slice S 512 sc, .int .i64 0] ∧ World.ownsB w' W.heap.size 63 1 (.slice S 512 sc) 512 ((finL a la first 512).map uV) ∧ Fresh W w') (fun W hW => (final41 A A' c c' a first 512 W (hA1.keep hW.fresh') (hF1.keep hW.fresh') (by omega) (by omega)).mono ?_) fun W v W' hW hr => ?_
      ·rintro v W' ⟨⟨q1, _⟩ | ⟨_, _, l', S, sc, q1, q2, q4⟩, q3⟩
       ·rcases q1 with q1 | q1
        ·rw [hsa] at q1; cases q1
        ·omega
       ·rw [hsa] at q1; injection q1 with q1; subst q1
        exact ⟨S, sc, q2, q4, q3⟩
      obtain ⟨S, sc, hv, ho, hf⟩ := hr
      obtain ⟨S2, sc2, e3, x3, k3, i3⟩ := hW.gain ho hf
      injection e3 with e3 _ e4; subst e3; subst e4
      refine ⟨.tup [.own 0 0, .val (.int .i64 0)], _, ?_, x3, k3, ?_⟩
      ·rw [hv]
       simp only [Is, IsL] at i3 ⊢
       exact ⟨_, ⟨_, _, i3, ⟨_, _, rfl, rfl, rfl⟩, rfl⟩, rfl⟩
      clear hv hf hW ho x3 k3 i3 W W'
      simp only [List.nil_append]
      (refine Y_go 600 ?_; dsimp only [zq8t, Y_k, zq4u, zq8o, zq6n, Nat.reduceBEq, zq6k, YK, zq5j, zq2f, nth, zq2e, zq6l, zq9i, normF, zq6m, zq86, zq87, zq8f, zq8a, zq89, zq9y, t12n15, T12n15, zq9r, zq9q, zq55, zq0t, zq09, zq08, zq0q, zq9t, zq9v])
      refine loop_go (α := Nat × Option Addr × Nat) (fun j => 512 + j.1 ≤ max 512 first.length) (fun _ => ⟨W1, W1.heap.size, [], 161, []⟩)
       (fun j => { F := [(1, .val (.slice A2 b.length c2)), (0, .val (.slice A a.length c)), (2, .val (.slice A' first.length c')), (6, .bf), (7, .bt), (13, .val (.int .i64 ((k1 : Nat) : Int))), (14, .bf), (15, .val (.int .i64 0)), (16, .val (.int .i64 ((k1 : Nat) : Int))), (17, .bf), (18, .val (.int .i64 0)), (19, .own 0 0), (20, .val (.int .i64 0)), (21, .val (.int .i64 ((512 + j.1 : Nat) : Int)))], H := [.own 63 0 1 j.2.1 (512 + j.1) j.2.2 ((finL a la first 512 ++ (first.drop 512).take j.1).map uV)] }) (fun j => first.length - j.1) (fun _ => rfl) ?start ?round
      case start =>
       intro a' W rep
       refine ⟨(0, S, sc), by simp; omega, ?_⟩
       simp only [List.take_zero, List.append_nil, Nat.add_zero]
       exact rep.le (by (simp only [setn, List.nil_append, List.cons_append, leF, leH_nil, leH_cons, leF_nil, lk, scp, scpL, scpO, resF, resH, resO, resV, resVL, nth, Nat.reduceBEq, Nat.reduceLT, decide_true, decide_false, List.length, List.length_cons, List.length_nil, Nat.reduceAdd, Bool.and_self, Bool.and_true, and_true, true_and, numF] <;> try simp)) (by (simp only [setn, List.nil_append, List.cons_append, leF, leH_nil, leH_cons, leF_nil, lk, scp, scpL, scpO, resF, resH, resO, resV, resVL, nth, Nat.reduceBEq, Nat.reduceLT, decide_true, decide_false, List.length, List.length_cons, List.length_nil, Nat.reduceAdd, Bool.and_self, Bool.and_true, and_true, true_and, numF] <;> try simp))
      case round =>
       rintro ⟨j, S, sc⟩ hj I again
       simp only at hj
       (refine Y_go 600 ?_; dsimp only [zq9y, t12n8, T12n8, zq9r, zq9q, Y_k, zq4u, zq8o, zq6n, Nat.reduceBEq, zq6l, zq6k, YK, zq8t, zq55, zq0r, zq50, zq04, zq92, zq9b, zq0i, zq9e, zq9i, normF, zq6m, zq86, zq87, zq8f, zq8a, zq89, zq9s, zq6h, zq8x, YC, zq9p, t12n7, T12n7, zq9t, zq58, zq06, zq0w, zq5c, zq1p, zq1c, List.nil_append, zq1b, zq18, zq5h, List.map, zq6q, repL, List.cons_append, zq23, Nat.reduceMul, zq7u, zq73, zq0a, dropL, takeL, zq20, splice, setn, zq24, zq26, List.length_cons, List.length_nil, Nat.reduceAdd, zq5l, zq2w, nth, zq09, zq08, zq2s, zq2r, zq2n, zq2j, zq2k, zq8l, zq8m, zq8k, denL, den, zq2l, zq2h, zqa1, t12n6, T12n6, zq4w, zq8p, zq0e, zqa2, zq9u, popTo, zq6i, YP, t12n14, T12n14, zq9j])
       refine ⟨fun hlt => ?_, fun hge => ?_⟩
       ·have hlt : 512 + j < first.length := by have := of_decide_eq_true hlt; omega
        have hc : (first.map uV)[512 + j]? = some (uV first[512 + j]) := by rw [List.getElem?_map, List.getElem?_eq_getElem hlt]; rfl
        refine ⟨⟨by omega, by omega, hF1.isSome (j := 512 + j) (by simpa using hlt)⟩, first[512 + j], by rw [Int.toNat_natCast, Nat.mul_one]; exact hF1.cell hc, fun g => ⟨⟨by simp only [maxLen]; omega, by omega⟩, fun S' sc' => ?_⟩⟩
        have e1 : List.map uV (finL a la first 512 ++ List.take j (List.drop 512 first)) ++ [Value.int IntKind.u64 first[512 + j]] = (finL a la first 512 ++ (first.drop 512).take (j + 1)).map uV := by
         rw [List.take_add_one, List.getElem?_drop, List.getElem?_eq_getElem hlt]
         simp [uV]
        rw [e1, show 512 + j + 1 = 512 + (j + 1) by omega]
        refine ⟨((512 + (j + 1) : Nat) : Int), ArOk.to (by omega) (by omega) (by omega), lend_rule fun a' W rep => again (j + 1, S', sc') (by simp only; omega) (by simp only; omega) a' W ?_⟩
        exact rep.res.le (by (simp only [setn, List.nil_append, List.cons_append, leF, leH_nil, leH_cons, leF_nil, lk, scp, scpL, scpO, resF, resH, resO, resV, resVL, nth, Nat.reduceBEq, Nat.reduceLT, decide_true, decide_false, List.length, List.length_cons, List.length_nil, Nat.reduceAdd, Bool.and_self, Bool.and_true, and_true, true_and, numF] <;> try simp)) (by (simp only [setn, List.nil_append, List.cons_append, leF, leH_nil, leH_cons, leF_nil, lk, scp, scpL, scpO, resF, resH, resO, resV, resVL, nth, Nat.reduceBEq, Nat.reduceLT, decide_true, decide_false, List.length, List.length_cons, List.length_nil, Nat.reduceAdd, Bool.and_self, Bool.and_true, and_true, true_and, numF] <;> try simp))
       ·have hge : ¬ 512 + j < first.length := by have := of_decide_eq_false hge; omega
        have ej : finL a la first 512 ++ (first.drop 512).take j = leftL 512 a la first := by
         rw [List.take_of_length_le (by rw [List.length_drop]; omega)]; rfl
        have el : 512 + j = (leftL 512 a la first).length := by
         unfold leftL; rw [List.length_append, List.length_map, List.length_range, List.length_drop]; omega
        rw [ej, el]
        have hll : (leftL 512 a la first).length ≤ 2000 := by rw [← el]; have : max 512 first.length ≤ 600 := by omega
                                                              omega
        refine G.le (E' := ⟨W1, W1.heap.size, [], 161, []⟩) rfl (s' := { F := [(114, .val (.slice S (leftL 512 a la first).length sc)), (113, .val (.slice A2 b.length c2)), (0, .val (.slice A a.length c)), (6, .bf), (7, .bt), (13, .val (.int .i64 ((k1 : Nat) : Int))), (14, .bf), (15, .val (.int .i64 0)), (16, .val (.int .i64 ((k1 : Nat) : Int))), (17, .bf), (18, .val (.int .i64 0)), (20, .val (.int .i64 0))], H := [] ++ [.own 63 0 1 S (leftL 512 a la first).length sc ((leftL 512 a la first).map uV)] }) (fun a' W rep => (rep.plain 114 (i := 0) rfl rfl).le (by (simp only [setn, List.nil_append, List.cons_append, leF, leH_nil, leH_cons, leF_nil, lk, scp, scpL, scpO, resF, resH, resO, resV, resVL, nth, Nat.reduceBEq, Nat.reduceLT, decide_true, decide_false, List.length, List.length_cons, List.length_nil, Nat.reduceAdd, Bool.and_self, Bool.and_true, and_true, true_and, numF] <;> try simp)) (by (simp only [setn, List.nil_append, List.cons_append, leF, leH_nil, leH_cons, leF_nil, lk, scp, scpL, scpO, resF, resH, resO, resV, resVL, nth, Nat.reduceBEq, Nat.reduceLT, decide_true, decide_false, List.length, List.length_cons, List.length_nil, Nat.reduceAdd, Bool.and_self, Bool.and_true, and_true, true_and, numF] <;> try simp))) ?_
        refine G.cut (H1 := []) (r := [.own 63 0 1 S (leftL 512 a la first).length sc ((leftL 512 a la first).map uV)]) rfl (by (simp only [setn, List.nil_append, List.cons_append, leF, leH_nil, leH_cons, leF_nil, lk, scp, scpL, scpO, resF, resH, resO, resV, resVL, nth, Nat.reduceBEq, Nat.reduceLT, decide_true, decide_false, List.length, List.length_cons, List.length_nil, Nat.reduceAdd, Bool.and_self, Bool.and_true, and_true, true_and, numF] <;> try simp)) fun W2 hW2 hov2 => ?_
        have hS : RowAt W2 S ((leftL 512 a la first).map uV) := hW2.rowAt' (i := 0) (t := 63) (ver := 0) (sz := 1) (n := (leftL 512 a la first).length) (c := sc) rfl
        have nil2 : HeapOk ⟨W2, W2.heap.size, fps [], 161, []⟩ [] W2 := heapOk_nil (w := W2) (N := W2.heap.size) (Nat.le_refl _) (fps []) 161 []
        have hB2 : RowAt W2 A2 (cellsE b) := ((rowE0 hB1 161 []).over hov2).at nil2
        have hf2 : Fresh W1 W2 := (hov2.heap nil2).fresh'
        clear hW2 hov2 nil2
        show G _ ⟨W2, W2.heap.size, [], 161, []⟩ _ _
        refine call_val (R := fun v => v = judV (frst (badAt b lb (begL (leftL 512 a la first))) b.length)) (vs := [.slice A2 b.length c2, .slice S (leftL 512 a la first).length sc]) rfl (fun W hW => hjud (by omega) (by omega) hsb (hB2.keep hW.fresh') (hS.keep hW.fresh')) fun v hv => ⟨judS (frst (badAt b lb (begL (leftL 512 a la first))) b.length), by rw [hv]; exact judS_is _ _, ?_⟩
        rw [hq2]
        dsimp only [judS, Option.getD, Option.isNone, bsv]
        have done : ∀ s, denAll s.H s.F [6] = some [.bool true] → RetG (cxOf Try.prog Try.f12 K12 T12 R) ⟨W2, W2.heap.size, [], 161, []⟩ s := fun s hs =>
         ret_rule (vs := [.bool true]) r12 rfl hs fun W hW => hR _ _ ⟨rfl, hf1.tr (hf2.tr hW.fresh')⟩
        (refine Y_go 600 ?_; dsimp only [zq8t, Y_k, zq4u, zq8o, zq6n, Nat.reduceBEq, zq6k, YK, zq5j, zq2f, nth, zq2e, zq6l, zq9i, normF, zq6m, zq86, zq87, zq8a, zq89, zq9y, t12n13, T12n13, zq9r, zq9q, zq50, zq8p, zq6q, zq04, zq92, zq9b, zq0i, zq9d, Y_gk, zq6e, YS, zq6a, zq4v, zq6o, zq0b, zq02, zq9s, zq6f, YC, t12n9, T12n9, zq6p, zq9x, YR, zq6c, zq0c, zq6b, zq51, zq8v, zq0j, zq6h, zq8x, zq9p, t12n12, T12n12, zq53, zq0n, t12n10, T12n10, zq69, zq9c])
        repeat' first
         | (refine ⟨fun q => ?_, fun q => ?_⟩ <;> first | (exfalso; revert q; decide) | skip)
         | exact done _ rfl
         | exact done _ (congrArg (fun b => some [Value.bool b]) (beq_self_eq_true _))
         | (have hk2 := (frst_some hq2).1
            refine ⟨((a.length + k2 : Nat) : Int), ArOk.to (by omega) (by omega) (by omega), ?_⟩)
end Go.Proofs.Ytnedgfkgmdoahaa
