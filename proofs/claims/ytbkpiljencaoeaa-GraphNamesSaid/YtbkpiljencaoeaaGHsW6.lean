/- shuntref12.open, May: what they answer. -/
import Derived.Test.YtbkpiljencaoeaaGHsW1
import Derived.Test.YtbkpiljencaoeaaHsRef
import Derived.Test.YtbkpiljencaoeaaGHsCodeO
set_option linter.unusedSimpArgs false
set_option linter.unusedVariables false
set_option linter.unnecessarySimpa false
namespace Go.Proofs.Ytbkpiljencaoeaa
open Go Go.Sx Go.Hs
set_option maxRecDepth 100000
theorem evCell {E : Env} {A : Option Addr} {h : List Ev} (hA : RowE E A (cellsE h)) {n : Nat} (hn : n < h.length) (k : Nat) (v : Value) (hk : (evA h n).cells[k]? = some v) : CellAt E A (n * 9 + k) v := by
 rw [evA_lt hn] at hk
 exact hA.cell (by rw [cellsE_get h hn (List.getElem?_eq_some_iff.1 hk).1]; exact hk)
theorem rowE0 {w : World} {A : Option Addr} {xs : List Value} (h : RowAt w A xs) (nt : Nat) (mk : List Nat) : RowE ⟨w, w.heap.size, [], nt, mk⟩ A xs := h.toE (by simp) nt mk
theorem openR_lt (h : List Ev) (c : Int) : ∀ n, openR h c n < n ∧ -1 ≤ openR h c n
 | 0 => by simp [openR]
 | n + 1 => by
  have ih := openR_lt h c n
  simp only [openR]
  split
  ·omega
  ·split <;> omega
theorem open57 (A : Option Addr) (c : Nat) (h : List Ev) (q : Int) (n : Nat) (w : World) (hA : RowAt w A (cellsE h)) (hn : n ≤ h.length) (hl : h.length ≤ 1000000) :
  CallsV Try.prog 71 [.slice A h.length c, .int .i64 q, .int .i64 n] w fun v w' => v = .int .i64 (openR h q n) ∧ Fresh w w' := by
 refine calls_go (keep := K71) (nt := 54) (svs := [.val (.slice A h.length c), .val (.int .i64 q), .val (.int .i64 n)]) Try.func71 x71 n71 (by simp) (by simp [IsL, Is]) fun R hR => ?_
 (refine Y_go 600 ?_; dsimp only [X71, numF, Nat.reduceAdd, zq9r, zq9q, Y_k, zq4u, zq8p, zq6q, YK, zq8t, zq9i, normF, zq6n, Nat.reduceBEq, zq6l, zq6k, zq6m, zq86, zq87, zq9y, t71n8, T71n8, t71n7, T71n7, zq9t, zq9v])
 refine loop_go (α := Nat) (fun i => i ≤ n) (fun _ => ⟨w, w.heap.size, [], 54, []⟩)
  (fun i => { F := [(0, .val (.slice A h.length c)), (1, .val (.int .i64 q)), (2, .val (.int .i64 n)), (7, .val (.int .i64 (openR h q i))), (8, .val (.int .i64 i))], H := [] }) (fun i => n - i) (fun _ => rfl) ?start ?round
 case start =>
  intro a W rep
  exact ⟨0, Nat.zero_le _, rep.le (by (simp only [setn, List.nil_append, List.cons_append, leF, leH_nil, leH_cons, leF_nil, lk, scp, scpL, scpO, resF, resH, resO, resV, resVL, nth, Nat.reduceBEq, Nat.reduceLT, decide_true, decide_false, List.length, List.length_cons, List.length_nil, Nat.reduceAdd, Bool.and_self, Bool.and_true, and_true, true_and, numF] <;> try simp); rfl) (by (simp only [setn, List.nil_append, List.cons_append, leF, leH_nil, leH_cons, leF_nil, lk, scp, scpL, scpO, resF, resH, resO, resV, resVL, nth, Nat.reduceBEq, Nat.reduceLT, decide_true, decide_false, List.length, List.length_cons, List.length_nil, Nat.reduceAdd, Bool.and_self, Bool.and_true, and_true, true_and, numF] <;> try simp))⟩
 case round =>
  intro i hi I again
  have hi : i ≤ n := hi
  (refine Y_go 600 ?_; dsimp only [zq9y, t71n5, T71n5, zq9r, zq9q, Y_k, zq4u, zq8o, zq6n, Nat.reduceBEq, zq6l, zq6k, YK, zq8t, zq50, zq04, zq92, zq9b, zq0i, zq9e, zq9i, normF, zq6m, zq86, zq87, zq9s, zq6h, zq8x, YC, zq9p, t71n4, T71n4, zq9t, zq58, zq06, zq0w, zq5a, zq16, zq5c, zq1p, zq1c, List.nil_append, zq1b, zq18, zq9c, Y_gk, zq6d, YR, zq69, Nat.add_zero, zq8p, zq6q, zq4v, zq6p, zq0b, zq89, t71n0, T71n0, t71n2, T71n2, zq6e, YS, zq6a, zq6o, t71n1, T71n1, zq6f, zqa1, t71n3, T71n3, zq4w, zq0e, zqa2, zq6c, zq0c, zq8a, zq6b, zq03, zq6g, zq9u, popTo, zq6i, YP, t71n6, T71n6, zq9x])
  refine ⟨fun hlt => ?_, fun hge => ?_⟩
  ·have hlt : i < n := by have := of_decide_eq_true hlt; omega
   have hih : i < h.length := by omega
   have hsome : A.isSome = true := hA.isSome (j := i * 9) (by rw [cellsE_len]; omega)
   have hb : 0 ≤ (i : Int) ∧ (i : Int) < (h.length : Int) ∧ A.isSome = true := ⟨by omega, by omega, hsome⟩
   have c0 : CellAt ⟨w, w.heap.size, [], 54, []⟩ A ((i : Int).toNat * 9) _ := evCell (rowE0 hA 54 []) hih 0 _ rfl
   have c2 : CellAt ⟨w, w.heap.size, [], 54, []⟩ A ((i : Int).toNat * 9 + 2) _ := evCell (rowE0 hA 54 []) hih 2 _ rfl
   have hadd : ArOk .add .i64 (i : Int) 1 ((i + 1 : Nat) : Int) := ArOk.to (by omega) (by omega) (by omega)
   have hsu : openR h q (i + 1) = if (evA h i).core = q ∧ ((evA h i).kind = 5 ∨ (evA h i).kind = 6) then -1 else if (evA h i).core = q ∧ (evA h i).kind = 1 then (i : Int) else openR h q i := rfl
   have s1 : (evA h i).core = q ∧ ((evA h i).kind = 5 ∨ (evA h i).kind = 6) → openR h q (i + 1) = -1 := fun k => by rw [hsu, if_pos k]
   have s2 : (evA h i).core = q ∧ (evA h i).kind = 1 → openR h q (i + 1) = i := fun k => by rw [hsu, if_neg (by omega), if_pos k]
   have s3 : ¬ ((evA h i).core = q ∧ ((evA h i).kind = 5 ∨ (evA h i).kind = 6)) → ¬ ((evA h i).core = q ∧ (evA h i).kind = 1) → openR h q (i + 1) = openR h q i := fun k k' => by rw [hsu, if_neg k, if_neg k']
   have nx : ∀ v, v = openR h q (i + 1) → ∀ a W, Rep ⟨w, w.heap.size, [], 54, []⟩ { F := [(0, .val (.slice A h.length c)), (1, .val (.int .i64 q)), (2, .val (.int .i64 n)), (7, .val (.int .i64 v)), (8, .val (.int .i64 ((i + 1 : Nat) : Int)))], H := [] } a W → I a W := fun v hv a W rep => by
    subst hv; exact again (i + 1) hlt (by omega) a W rep
   clear hsu again
   repeat' first
    | refine ⟨hb, hsome, _, c0, ?_⟩
    | refine ⟨hb, hsome, _, c2, ?_⟩
    | (refine ⟨_, hadd, lend_rule fun a W rep => nx (-1) ?_ a W (rep.le ?_ ?_)⟩
       rotate_left
       · (simp only [setn, List.nil_append, List.cons_append, leF, leH_nil, leH_cons, leF_nil, lk, scp, scpL, scpO, resF, resH, resO, resV, resVL, nth, Nat.reduceBEq, Nat.reduceLT, decide_true, decide_false, List.length, List.length_cons, List.length_nil, Nat.reduceAdd, Bool.and_self, Bool.and_true, and_true, true_and, numF] <;> try simp)
         done
       · (simp only [setn, List.nil_append, List.cons_append, leF, leH_nil, leH_cons, leF_nil, lk, scp, scpL, scpO, resF, resH, resO, resV, resVL, nth, Nat.reduceBEq, Nat.reduceLT, decide_true, decide_false, List.length, List.length_cons, List.length_nil, Nat.reduceAdd, Bool.and_self, Bool.and_true, and_true, true_and, numF] <;> try simp)
       clear nx
       simp only [beq_iff_eq, beq_eq_false_iff_ne, ne_eq] at *
       omega)
    | (refine ⟨_, hadd, lend_rule fun a W rep => nx i ?_ a W (rep.le ?_ ?_)⟩
       rotate_left
       · (simp only [setn, List.nil_append, List.cons_append, leF, leH_nil, leH_cons, leF_nil, lk, scp, scpL, scpO, resF, resH, resO, resV, resVL, nth, Nat.reduceBEq, Nat.reduceLT, decide_true, decide_false, List.length, List.length_cons, List.length_nil, Nat.reduceAdd, Bool.and_self, Bool.and_true, and_true, true_and, numF] <;> try simp)
         done
       · (simp only [setn, List.nil_append, List.cons_append, leF, leH_nil, leH_cons, leF_nil, lk, scp, scpL, scpO, resF, resH, resO, resV, resVL, nth, Nat.reduceBEq, Nat.reduceLT, decide_true, decide_false, List.length, List.length_cons, List.length_nil, Nat.reduceAdd, Bool.and_self, Bool.and_true, and_true, true_and, numF] <;> try simp)
       clear nx
       simp only [beq_iff_eq, beq_eq_false_iff_ne, ne_eq] at *
       omega)
    | (refine ⟨_, hadd, lend_rule fun a W rep => nx (openR h q i) ?_ a W (rep.le ?_ ?_)⟩
       rotate_left
       · (simp only [setn, List.nil_append, List.cons_append, leF, leH_nil, leH_cons, leF_nil, lk, scp, scpL, scpO, resF, resH, resO, resV, resVL, nth, Nat.reduceBEq, Nat.reduceLT, decide_true, decide_false, List.length, List.length_cons, List.length_nil, Nat.reduceAdd, Bool.and_self, Bool.and_true, and_true, true_and, numF] <;> try simp)
         done
       · (simp only [setn, List.nil_append, List.cons_append, leF, leH_nil, leH_cons, leF_nil, lk, scp, scpL, scpO, resF, resH, resO, resV, resVL, nth, Nat.reduceBEq, Nat.reduceLT, decide_true, decide_false, List.length, List.length_cons, List.length_nil, Nat.reduceAdd, Bool.and_self, Bool.and_true, and_true, true_and, numF] <;> try simp)
       clear nx
       simp only [beq_iff_eq, beq_eq_false_iff_ne, ne_eq] at *
       omega)
    | refine ⟨fun _ => ?_, fun _ => ?_⟩
    | fail
  ·have hin : i = n := by have := of_decide_eq_false hge; omega
   subst hin
   exact ret_rule (vs := [.int .i64 _]) r71 rfl rfl fun W hW => hR _ _ ⟨rfl, hW.fresh'⟩
theorem may1_iff (h : List Ev) (o : Int) (e : Ev) : may1 h o e = true ↔ 1 ≤ e.kind ∧ e.kind ≤ 8 ∧ 0 ≤ e.core ∧ e.core < 4 ∧ ((e.kind = 2 ∨ e.kind = 3 ∨ e.kind = 7 ∨ e.kind = 8) → 0 ≤ e.addr) ∧ (e.kind = 1 → o < 0 ∧ 1 ≤ e.lane ∧ e.lane ≤ 4 ∧ 0 ≤ e.block ∧ 0 ≤ e.tr) ∧ ((e.kind = 7 ∨ e.kind = 8) → o < 0) ∧ ((2 ≤ e.kind ∧ e.kind ≤ 6) → 0 ≤ o ∧ (evA h o.toNat).block = e.block ∧ (evA h o.toNat).tr = e.tr) ∧ (e.kind = 6 → 1 ≤ e.code ∧ e.code ≤ 8) := by
 have hw := word_iff e
 have hp := plain_iff e
 unfold may1
 cases hwv : wordB e <;> cases hpv : plainB e <;> simp only [hwv, hpv] at hw hp ⊢ <;> (try simp at hw) <;> (try simp at hp) <;> (try simp) <;> omega
set_option maxHeartbeats 2000000 in
theorem may34 (A : Option Addr) (c : Nat) (h : List Ev) (w : World) (hA : RowAt w A (cellsE h)) (hl : h.length ≤ 1000000) :
  CallsV Try.prog 55 [.slice A h.length c] w fun v w' => v = .bool (mayL h) ∧ Fresh w w' := by
 refine calls_go (keep := K55) (nt := 146) (svs := [.val (.slice A h.length c)]) Try.func55 x55 n55 (by simp) (by simp [IsL, Is]) fun R hR => ?_
 (refine Y_go 600 ?_; dsimp only [X55, numF, Nat.reduceAdd, zq9r, zq9q, Y_k, zq4u, zq8p, zq6p, YK, zq8t, zq9i, normF, zq6n, Nat.reduceBEq, zq6l, zq6k, zq6m, zq86, zq8a, zq87, zq9y, t55n17, T55n17, zq6q, zq9t, zq9v])
 refine loop_go (α := Nat) (fun i => i ≤ h.length ∧ mayTo h i = true) (fun _ => ⟨w, w.heap.size, [], 146, []⟩)
  (fun i => { F := [(0, .val (.slice A h.length c)), (3, .val (.int .i64 i))], H := [] }) (fun i => h.length - i) (fun _ => rfl) ?start ?round
 case start =>
  intro a W rep
  exact ⟨0, ⟨Nat.zero_le _, rfl⟩, rep.le (by (simp only [setn, List.nil_append, List.cons_append, leF, leH_nil, leH_cons, leF_nil, lk, scp, scpL, scpO, resF, resH, resO, resV, resVL, nth, Nat.reduceBEq, Nat.reduceLT, decide_true, decide_false, List.length, List.length_cons, List.length_nil, Nat.reduceAdd, Bool.and_self, Bool.and_true, and_true, true_and, numF] <;> try simp)) (by (simp only [setn, List.nil_append, List.cons_append, leF, leH_nil, leH_cons, leF_nil, lk, scp, scpL, scpO, resF, resH, resO, resV, resVL, nth, Nat.reduceBEq, Nat.reduceLT, decide_true, decide_false, List.length, List.length_cons, List.length_nil, Nat.reduceAdd, Bool.and_self, Bool.and_true, and_true, true_and, numF] <;> try simp))⟩
 case round =>
  rintro i ⟨hi, hm⟩ I again
  have hi : i ≤ h.length := hi
  have hm : mayTo h i = true := hm
  (refine Y_go 600 ?_; dsimp only [zq9y, t55n15, T55n15, zq9r, zq9q, Y_k, zq4u, zq8o, zq6n, Nat.reduceBEq, zq6l, zq6k, YK, zq8t, zq55, zq0r, zq50, zq04, zq92, zq9b, zq0i, zq9e, zq9i, normF, zq6m, zq86, zq87, zq9s, zq6h, zq8x, YC, zq9p, t55n14, T55n14, zq9t, zq58, zq06, zq0w, zq5c, zq1p, zq1c, List.nil_append, List.cons_append, zq1b, zq17, zq5e, List.length_nil, List.map, zq6q, zq5d, zq7t, List.length_cons, Nat.reduceAdd, zq8l, zq73, zq8m, zq8k, zq0a, zq1x, nth, zq1t, dropL, takeL, zq1r, splice, setn, zq8s, zq89, zq8c, t55n12, T55n12, zq5a, zq14, Nat.add_zero, zq1o, zq1k, zq19, zq18, zq8p, Y_gk, zq6e, YS, zq6a, zq4v, zq6o, zq0b, zq6f, t55n0, T55n0, zq6p, zq8a, zq9x, YR, zq6c, zq9g, zq0c, zq9h, t55n11, T55n11, zq9c, zq69, t55n1, T55n1, t55n10, T55n10, zq9j, zq6d, zq6b, zq6g, zq9u, popTo, zq6i, YP, t55n16, T55n16])
  refine ⟨fun hlt => ?_, fun hge => ?_⟩
  ·have hlt : i < h.length := by have := of_decide_eq_true hlt; omega
   have hsome : A.isSome = true := hA.isSome (j := i * 9) (by rw [cellsE_len]; omega)
   have cl : ∀ k v, (evA h i).cells[k]? = some v → CellAt ⟨w, w.heap.size, [], 146, []⟩ A ((i : Int).toNat * 9 + k) v := fun k v hk => evCell (rowE0 hA 146 []) hlt k v hk
   have hsu : mayTo h (i + 1) = (mayTo h i && may1 h (openR h (evA h i).core i) (evA h i)) := rfl
   rw [hm, Bool.true_and] at hsu
   have hadd : ArOk .add .i64 (i : Int) 1 ((i + 1 : Nat) : Int) := ArOk.to (by omega) (by omega) (by omega)
   have hnx : mayTo h (i + 1) = true → ∀ a W, Rep ⟨w, w.heap.size, [], 146, []⟩ { F := [(0, .val (.slice A h.length c)), (3, .val (.int .i64 ((i + 1 : Nat) : Int)))], H := [] } a W → I a W := fun hy a W rep => again (i + 1) ⟨hlt, hy⟩ (by omega) a W rep
   have hbad : mayTo h (i + 1) = false → ∀ s, denAll s.H s.F [2] = some [.bool false] → RetG (cxOf Try.prog Try.f55 K55 T55 R) ⟨w, w.heap.size, [], 146, []⟩ s := fun hf s hs => by
    refine ret_rule (vs := [.bool false]) r55 rfl hs fun W hW => hR _ _ ⟨?_, hW.fresh'⟩
    have key : ∀ m, mayTo h (i + 1 + m) = false := fun m => by
     induction m with
     | zero => exact hf
     | succ m ih => show (mayTo h (i + 1 + m) && _) = false; rw [ih]; rfl
    have := key (h.length - (i + 1))
    rw [show i + 1 + (h.length - (i + 1)) = h.length by omega] at this
    unfold mayL; rw [this]; rfl
   have hor := openR_lt h (evA h i).core i
   have hcall : ∀ W, Fresh w W → CallsV Try.prog 71 [.slice A h.length c, .int .i64 (evA h i).core, .int .i64 i] W fun v w' => v = .int .i64 (openR h (evA h i).core i) ∧ Fresh W w' := fun W hW => open57 A c h _ i W (hA.keep hW) (by omega) hl
   have hiff := may1_iff h (openR h (evA h i).core i) (evA h i)
   rw [← hsu] at hiff
   clear hsu again
   generalize evA h i = e at *
   generalize openR h e.core i = o at *
   have cB3 : 0 ≤ o → CellAt ⟨w, w.heap.size, [], 146, []⟩ A (o.toNat * 9 + 3) (.int .i64 (evA h o.toNat).block) := fun ho => evCell (rowE0 hA 146 []) (by omega) 3 _ rfl
   have cB4 : 0 ≤ o → CellAt ⟨w, w.heap.size, [], 146, []⟩ A (o.toNat * 9 + 4) (.int .i64 (evA h o.toNat).tr) := fun ho => evCell (rowE0 hA 146 []) (by omega) 4 _ rfl
   generalize evA h o.toNat = B at *
   refine ⟨⟨by omega, by omega, hsome⟩, _, cl 0 _ rfl, _, cl 1 _ rfl, _, cl 2 _ rfl, _, cl 3 _ rfl, _, cl 4 _ rfl, _, cl 5 _ rfl, _, cl 6 _ rfl, _, cl 7 _ rfl, _, cl 8 _ rfl, fun g => ?_⟩
   clear cl
   generalize hy : mayTo h (i + 1) = y at *
   have hbad2 : ∀ s, denAll s.H s.F [2] = some [.bool false] → y = false → RetG (cxOf Try.prog Try.f55 K55 T55 R) ⟨w, w.heap.size, [], 146, []⟩ s := fun s hs hf => hbad hf s hs
   clear hy hbad hA
   repeat' first
    | refine ⟨fun q => ?_, fun q => ?_⟩ <;> simp only [decide_eq_true_eq, decide_eq_false_iff_not, beq_iff_eq, beq_eq_false_iff_ne, ne_eq, bne_iff_ne, bne_eq_false_iff_eq] at q
    | (refine hbad2 _ rfl ?_
       clear hbad2 hcall cB3 cB4 hnx
       cases y with
       | false => rfl
       | true =>
         exfalso
         have hiff := hiff.1 rfl
         omega)
    | (refine call_val (R := fun v => v = .int .i64 o) (vs := [.slice A h.length c, .int .i64 e.core, .int .i64 i]) rfl (fun W hW => hcall W hW.fresh') fun v hv => ⟨.val (.int .i64 o), by rw [hv]; simp [Is], ?_⟩
       (refine Y_go 600 ?_; dsimp only [zq8t, Y_k, zq4u, zq8o, zq6n, Nat.reduceBEq, zq6k, YK, zq9i, normF, zq6l, zq6m, zq86, zq8a, zq89, zq87, zq8c, zq9y, t55n9, T55n9, zq9r, zq9q, zq5a, zq14, Nat.add_zero, zq5c, zq1o, nth, zq1k, List.length_cons, List.length_nil, Nat.reduceAdd, dropL, takeL, zq19, zq18, zq50, zq8p, zq6q, zq04, zq92, zq9b, zq0i, zq9c, Y_gk, zq6d, YR, zq69, zq9h, zq6e, YS, zq6a, zq4v, zq6o, zq0b, zq6p, zq9s, zq6f, YC, t55n2, T55n2, zq9x, zq6c, zq9e, zq0c, zq9g, zq6h, zq8x, zq9p, t55n8, T55n8, t55n3, T55n3, t55n7, T55n7, zq9f, t55n4, T55n4, zq58, zq06, zq0w, zq16, zq1p, zq1c, List.nil_append, zq1b, zq9d, t55n6, T55n6, t55n5, T55n5, zqa1, t55n13, T55n13, zq4w, zq0e, zqa2, zq6b, zq03, zq6g]))
    | (refine ⟨⟨?_, ?_, hsome⟩, hsome, _, cB3 ?_, ?_⟩
       · omega
       · omega
       · simp only [decide_eq_true_eq, decide_eq_false_iff_not] at *
         omega)
    | (refine ⟨⟨?_, ?_, hsome⟩, hsome, _, cB4 ?_, ?_⟩
       · omega
       · omega
       · simp only [decide_eq_true_eq, decide_eq_false_iff_not] at *
         omega)
    | (refine ⟨_, hadd, lend_rule fun a W rep => hnx ?_ a W (rep.le ?_ ?_)⟩
       rotate_left
       · (simp only [setn, List.nil_append, List.cons_append, leF, leH_nil, leH_cons, leF_nil, lk, scp, scpL, scpO, resF, resH, resO, resV, resVL, nth, Nat.reduceBEq, Nat.reduceLT, decide_true, decide_false, List.length, List.length_cons, List.length_nil, Nat.reduceAdd, Bool.and_self, Bool.and_true, and_true, true_and, numF] <;> try simp)
         done
       · (simp only [setn, List.nil_append, List.cons_append, leF, leH_nil, leH_cons, leF_nil, lk, scp, scpL, scpO, resF, resH, resO, resV, resVL, nth, Nat.reduceBEq, Nat.reduceLT, decide_true, decide_false, List.length, List.length_cons, List.length_nil, Nat.reduceAdd, Bool.and_self, Bool.and_true, and_true, true_and, numF] <;> try simp)
         done
       clear hbad2 hcall cB3 cB4 hnx
       refine hiff.2 ?_
       omega)
    | fail
  ·have hin : i = h.length := by have := of_decide_eq_false hge; omega
   subst hin
   exact ret_rule (vs := [.bool true]) r55 rfl rfl fun W hW => hR _ _ ⟨by unfold mayL; rw [hm]; rfl, hW.fresh'⟩
end Go.Proofs.Ytbkpiljencaoeaa
