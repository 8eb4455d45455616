/- hist.points: the map of who happens when. -/
import Derived.Test.YtbkpiljencaoeaaGHsJ1
import Derived.Test.YtbkpiljencaoeaaGHsCodeJ
set_option linter.unusedSimpArgs false
set_option linter.unusedVariables false
set_option linter.unnecessarySimpa false
namespace Go.Proofs.Ytbkpiljencaoeaa
open Go Go.Sx Go.Hs
set_option maxRecDepth 100000
def ptV (z : List (At × Hd)) : List (Value × Value) := z.foldl (fun m p => if p.1.point ≥ 0 then mput m (.int .i64 p.1.point) (ptrH p.2) else m) []
theorem ptV_snoc (z : List (At × Hd)) (p : At × Hd) : ptV (z ++ [p]) = if p.1.point ≥ 0 then mput (ptV z) (.int .i64 p.1.point) (ptrH p.2) else ptV z := by
 unfold ptV; rw [List.foldl_append]; rfl
theorem mput_keyI : ∀ (m : List (Value × Value)) (a : Int) (u : Value), (∀ p ∈ m, keyIs (.int .i64) p.1 = true) → ∀ p ∈ mput m (.int .i64 a) u, keyIs (.int .i64) p.1 = true
 | [], a, u, _, p, hp => by
  simp only [mput, List.mem_singleton] at hp
  subst hp; rfl
 | (k, v) :: m, a, u, h, p, hp => by
  simp only [mput] at hp
  split at hp
  ·rcases List.mem_cons.1 hp with rfl | hp
   ·first | exact h _ (List.mem_cons_self) | rfl
   ·exact h _ (List.mem_cons_of_mem _ hp)
  ·rcases List.mem_cons.1 hp with rfl | hp
   ·exact h _ (List.mem_cons_self)
   ·exact mput_keyI m a u (fun q hq => h q (List.mem_cons_of_mem _ hq)) p hp
theorem ptV_keys (z : List (At × Hd)) : ∀ p ∈ ptV z, keyIs (.int .i64) p.1 = true := by
 have : ∀ (z : List (At × Hd)) (m : List (Value × Value)), (∀ p ∈ m, keyIs (.int .i64) p.1 = true) → ∀ p ∈ z.foldl (fun m p => if p.1.point ≥ 0 then mput m (.int .i64 p.1.point) (ptrH p.2) else m) m, keyIs (.int .i64) p.1 = true := by
  intro z
  induction z with
  | nil => exact fun m h => h
  | cons q z ih =>
   intro m h
   rw [List.foldl_cons]
   refine ih _ ?_
   split
   ·exact mput_keyI m _ _ h
   ·exact h
 exact this z [] (by simp)
theorem mget_put1 : ∀ (m : List (Value × Value)) (a b : Int) (u : Value), (∀ p ∈ m, keyIs (.int .i64) p.1 = true) → mget (mput m (.int .i64 a) u) (.int .i64 b) = if b = a then some u else mget m (.int .i64 b)
 | [], a, b, u, _ => by
  simp only [mput, mget, keyB_int]
  by_cases h : b = a
  ·subst h; simp
  ·have : (b == a) = false := by simpa using h
   simp [this, h]
 | (k, v) :: m, a, b, u, h => by
  have hk := h _ (List.mem_cons_self)
  obtain ⟨q, rfl⟩ : ∃ q, k = .int .i64 q := by
   cases k with
   | int kd q =>
    cases kd <;> first | exact ⟨q, rfl⟩ | cases hk
   | _ => simp [keyIs] at hk
  have ih := mget_put1 m a b u (fun q hq => h q (List.mem_cons_of_mem _ hq))
  simp only [mput, keyB_int]
  by_cases e : a = q
  ·subst e
   simp only [beq_self_eq_true, if_true, mget, keyB_int]
   by_cases h : b = a
   ·subst h; simp
   ·have : (b == a) = false := by simpa using h
    simp [this, h]
  ·have : (a == q) = false := by simpa using e
   simp only [this, Bool.false_eq_true, if_false, mget, keyB_int, ih]
   by_cases h : b = q
   ·subst h
    have e' : ¬ b = a := fun h => e h.symm
    simp [e']
   ·have : (b == q) = false := by simpa using h
    simp [this]
theorem mget_pt (z : List (At × Hd)) (n : Nat) : mget (ptV z) (.int .i64 n) = (z.reverse.find? fun p => p.1.point == (n : Int)).map fun p => ptrH p.2 := by
 obtain ⟨y, rfl⟩ : ∃ y, z = y.reverse := ⟨z.reverse, by simp⟩
 rw [List.reverse_reverse]
 induction y with
 | nil => rfl
 | cons p y ih =>
  rw [List.reverse_cons, ptV_snoc, List.find?_cons]
  split
  ·rw [mget_put1 _ _ _ _ (ptV_keys _), ih]
   by_cases h : (n : Int) = p.1.point
   ·rw [if_pos h]
    have : (p.1.point == (n : Int)) = true := by simp [h]
    rw [this]; rfl
   ·rw [if_neg h]
    have : (p.1.point == (n : Int)) = false := by simp; exact fun k => h k.symm
    rw [this]
  ·rename_i h
   have : (p.1.point == (n : Int)) = false := by simp; omega
   rw [this]; exact ih
theorem points62 (A B : Option Addr) (c bc n : Nat) (z : List (At × Hd)) (w : World) (hB : RowAt w B (ptrs z)) (hz : ∀ p ∈ z, RowAt w (some ⟨p.2.g, 0, none⟩) (cellsA p.1 p.2)) (hl : z.length ≤ 1000000) :
  CallsV Try.prog 41 [.slice A n c, .slice B z.length bc] w fun v w' => ∃ gh gm gb, v = .func (.func 64) #[] #[.pointer (some ⟨gh, 0, none⟩), .pointer (some ⟨gb, 0, none⟩)] ∧ HeapOk ⟨w, w.heap.size, [], 30, []⟩ [.cells gh 39 [.val (.slice A n c)], .map gm (ptV z), .cells gb 111 [.mp 1]] w' := by
 refine calls_go (keep := K41) (nt := 30) (svs := [.val (.slice A n c), .val (.slice B z.length bc)]) Try.func41 x41 n41 (by simp) (by simp [IsL, Is]) fun R hR => ?_
 (refine Y_go 600 ?_; dsimp only [X41, numF, Nat.reduceAdd, zq9r, zq9q, Y_k, zq5f, zq8o, zq6n, Nat.reduceBEq, zq6k, zq7u, zq77, zq0a, zq1z, List.length_nil, List.nil_append, YK, zq8t, zq4u, zq8p, zq6y, zq9i, normF, zq6l, zq6m, zq86, zq87, zq8c, zq9y, t41n7, T41n7, zq60, List.length_cons, List.cons_append, zq5e, List.map, zq6v, zq5d, zq83, zq7p, zq1x, nth, zq1t, dropL, takeL, zq1r, splice, setn, zq8s, t41n6, T41n6, zq55, zq0r, zq6q, zq9t, zq9v])
 intro g1 gm gb
 refine loop_go (α := Nat) (fun i => i ≤ z.length) (fun _ => ⟨w, w.heap.size, [], 30, []⟩)
  (fun i => { F := [(2, .ptr 0 0), (5, .ptr 2 0), (9, .val (.slice B z.length bc)), (10, .val (.int .i64 z.length)), (11, .val (.int .i64 i))], H := [.cells g1 39 [.val (.slice A n c)], .map gm (ptV (z.take i)), .cells gb 111 [.mp 1]] }) (fun i => z.length - i) (fun _ => rfl) ?start ?round
 case start =>
  intro a' W rep
  exact ⟨0, Nat.zero_le _, rep.le (by (simp only [setn, List.nil_append, List.cons_append, leF, leH_nil, leH_cons, leF_nil, lk, scp, scpL, scpO, resF, resH, resO, resV, resVL, nth, Nat.reduceBEq, Nat.reduceLT, decide_true, decide_false, List.length, List.length_cons, List.length_nil, Nat.reduceAdd, Bool.and_self, Bool.and_true, and_true, true_and, numF] <;> try simp)) (by (simp only [setn, List.nil_append, List.cons_append, leF, leH_nil, leH_cons, leF_nil, lk, scp, scpL, scpO, resF, resH, resO, resV, resVL, nth, Nat.reduceBEq, Nat.reduceLT, decide_true, decide_false, List.length, List.length_cons, List.length_nil, Nat.reduceAdd, Bool.and_self, Bool.and_true, and_true, true_and, numF] <;> try simp); rfl)⟩
 case round =>
  intro i hi I hI
  have hi : i ≤ z.length := hi
  (refine Y_go 600 ?_; dsimp only [zq9y, t41n4, T41n4, zq9r, zq9q, Y_k, zq50, zq8o, zq6n, Nat.reduceBEq, zq6l, zq6k, zq04, zq92, zq9b, zq0i, zq9e, YK, zq8t, zq9i, normF, zq6m, zq86, zq87, zq8c, t41n3, T41n3, zq9s, zq6h, zq8x, YC, zq9p, t41n2, T41n2, zq9t, zq58, zq06, zq0w, zq5c, zq1p, zq1f, List.nil_append, zq1b, zq18, zq4u, zq89, zq8d, t41n1, T41n1, zq5i, zq2b, zq5a, zq16, Nat.add_zero, Nat.reduceAdd, zq1c, zq8p, zq6q, zq9h, t41n0, T41n0, zq1o, nth, zq1k, List.length_cons, List.length_nil, dropL, takeL, zq19, zq64, den, zq4j, zq00, zq4i, setn, zq8s, zqa1, zq4w, zq0e, zqa2, zq8a, zq9u, popTo, zq6i, YP, t41n5, T41n5, zq5k, evL, zq8j, zq9x])
  refine ⟨fun h2 => ?_, fun h2 => ?_⟩
  ·have hlt : i < z.length := by have := of_decide_eq_true h2; omega
   have hzi : z[i]? = some z[i] := List.getElem?_eq_getElem hlt
   generalize z[i] = pz at hzi
   have cX := hz pz (List.mem_of_getElem? hzi)
   have c5 : CellAt ⟨w, w.heap.size, [], 30, []⟩ (some ⟨pz.2.g, 0, none⟩) 5 (.int .i64 pz.1.point) := cX.cell rfl
   have hptr : CellAt ⟨w, w.heap.size, [], 30, []⟩ B ((i : Int).toNat * 1) (.pointer (some ⟨pz.2.g, 0, none⟩)) := hB.cell (by rw [Int.toNat_natCast, Nat.mul_one]; exact ptrs_get hzi)
   have hBs : B.isSome = true := hB.isSome (j := i) (by simp [ptrs]; omega)
   have htk : z.take (i + 1) = z.take i ++ [pz] := by rw [List.take_add_one, hzi]; rfl
   have hadd : ArOk .add .i64 (i : Int) 1 ((i + 1 : Nat) : Int) := ArOk.to (by omega) (by omega) (by omega)
   refine ⟨⟨by omega, by omega, hBs⟩, _, hptr, ?_⟩
   refine ⟨rfl, rfl, rfl, _, c5, fun hp => ⟨rfl, rfl, rfl, _, c5, ptV_keys _, _, hadd, lend_rule fun a' W rep => hI (i + 1) hlt (by omega) a' W (rep.le ?_ ?_)⟩, fun hp => ⟨_, hadd, lend_rule fun a' W rep => hI (i + 1) hlt (by omega) a' W (rep.le ?_ ?_)⟩⟩
   ·(simp only [setn, List.nil_append, List.cons_append, leF, leH_nil, leH_cons, leF_nil, lk, scp, scpL, scpO, resF, resH, resO, resV, resVL, nth, Nat.reduceBEq, Nat.reduceLT, decide_true, decide_false, List.length, List.length_cons, List.length_nil, Nat.reduceAdd, Bool.and_self, Bool.and_true, and_true, true_and, numF] <;> try simp)
   ·rw [htk, ptV_snoc, if_pos (by simpa using hp)]
    (simp only [setn, List.nil_append, List.cons_append, leF, leH_nil, leH_cons, leF_nil, lk, scp, scpL, scpO, resF, resH, resO, resV, resVL, nth, Nat.reduceBEq, Nat.reduceLT, decide_true, decide_false, List.length, List.length_cons, List.length_nil, Nat.reduceAdd, Bool.and_self, Bool.and_true, and_true, true_and, numF] <;> try simp)
    rfl
   ·(simp only [setn, List.nil_append, List.cons_append, leF, leH_nil, leH_cons, leF_nil, lk, scp, scpL, scpO, resF, resH, resO, resV, resVL, nth, Nat.reduceBEq, Nat.reduceLT, decide_true, decide_false, List.length, List.length_cons, List.length_nil, Nat.reduceAdd, Bool.and_self, Bool.and_true, and_true, true_and, numF] <;> try simp)
   ·rw [htk, ptV_snoc, if_neg (by simpa using hp)]
    (simp only [setn, List.nil_append, List.cons_append, leF, leH_nil, leH_cons, leF_nil, lk, scp, scpL, scpO, resF, resH, resO, resV, resVL, nth, Nat.reduceBEq, Nat.reduceLT, decide_true, decide_false, List.length, List.length_cons, List.length_nil, Nat.reduceAdd, Bool.and_self, Bool.and_true, and_true, true_and, numF] <;> try simp)
  ·have hil : i = z.length := by have := of_decide_eq_false h2; omega
   subst hil
   refine ret_rule (vs := [.func (.func 64) #[] #[.pointer (some ⟨g1, 0, none⟩), .pointer (some ⟨gb, 0, none⟩)]]) r41 rfl rfl fun W hW => hR _ _ ⟨g1, gm, gb, rfl, ?_⟩
   rw [List.take_length] at hW
   exact hW
end Go.Proofs.Ytbkpiljencaoeaa
