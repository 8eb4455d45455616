/- CacheSets, CacheBack: play. -/
import Derived.Test.YtimmobbginjkfaaCaW3
import Derived.Test.YtimmobbginjkfaaCaW4
import Derived.Test.YtimmobbginjkfaaCaW7
import Derived.Test.YtimmobbginjkfaaCaCodeL
set_option linter.unusedSimpArgs false
set_option linter.unusedVariables false
set_option linter.unnecessarySimpa false
namespace Go.Proofs.Ytimmobbginjkfaa
open Go Go.Sx Go.Ca
set_option maxRecDepth 100000
theorem call_ca {C : Cx} {E : Env} {d : Option Nat} {f : FuncId} {args : List Operand} {l : List XS} {k : List KI} {F : List (Nat × SV)} {vs : List Value} (gc gs : Nat) (c c' : Ca) (val : Value) (sv : SV) (r : List SO) (hP : C.P = Try.prog) (hargs : denL (caF gc gs c ++ r) (evL F args) = some vs)
  (hc : ∀ W, HeapOk E (caF gc gs c ++ r) W → HeapOk ⟨W, W.heap.size, fps (caF gc gs c), 0, []⟩ (caF gc gs c) W → CallsV Try.prog f vs W fun v W' => v = val ∧ HeapOk ⟨W, W.heap.size, fps (caF gc gs c), 0, []⟩ (caF gc gs c') W') (hsv : ∀ H, Is H sv val)
  (next : G C E (.ops l :: k) { F := putF F d sv, H := caF gc gs c' ++ r }) :
  G C E (.ops ({ dst := d, guard := none, i := .call f args } :: l) :: k) { F := F, H := caF gc gs c ++ r } := by
 refine call_lent (H1 := caF gc gs c) (r := r) (fun v H1' => v = val ∧ H1' = caF gc gs c') (caF_scp gc gs c) hargs (fun W hW hh => ?_) fun v H1' hv => ?_
 ·rw [hP]
  exact (hc W hW hh).mono fun v W' hv => ⟨_, ⟨hv.1, rfl⟩, caF_ext gc gs c c', rfl, hv.2⟩
 obtain ⟨rfl, rfl⟩ := hv
 exact ⟨sv, hsv _, next⟩
structure Sp where
 kind : Int
 n : Int
 state : Int
 write : Bool
 v : Int
 l : Nat → Int
def spV (s : Sp) : List Value := [.int .i64 s.kind, .int .i64 s.n, .int .i64 s.state, .bool s.write, .int .u64 s.v, .int .u64 (s.l 0), .int .u64 (s.l 1), .int .u64 (s.l 2), .int .u64 (s.l 3), .int .u64 (s.l 4), .int .u64 (s.l 5), .int .u64 (s.l 6), .int .u64 (s.l 7)]
def cellsS (l : List Sp) : List Value := l.flatMap spV
theorem cellsS_len (l : List Sp) : (cellsS l).length = l.length * 13 := flat_len (f := spV) (sz := 13) (fun _ => rfl) l
theorem cellsS_get (l : List Sp) {i k : Nat} (hi : i < l.length) (hk : k < 13) : (cellsS l)[i * 13 + k]? = (spV l[i])[k]? := flat_get (f := spV) (sz := 13) (fun _ => rfl) l hi hk
def stepC (c : Ca) (x : Sp) : Ca :=
 if x.kind = 0 then fillC c x.n x.state x.l else if x.kind = 1 then wordC c x.n else if x.kind = 2 then putC c x.n x.v else if x.kind = 3 then markC c x.n x.write
 else if x.kind = 4 then demC c x.n else if x.kind = 5 then proC c x.n x.l else if x.kind = 6 then dropC c x.n else if x.kind = 7 then comC c else if x.kind = 8 then disC c else c
structure Like (c c' : Ca) : Prop where
 s : c'.sets = c.sets
 w : c'.ways = c.ways
 u : c'.uses = c.uses ∨ c'.uses = c.uses + 1
theorem Like.rfl' (c : Ca) : Like c c := ⟨rfl, rfl, .inl rfl⟩
theorem Like.ok {c c' : Ca} (h : Like c c') (ok : CaOk c) (hu : c.uses + 1 ≤ 1000000) : CaOk c' := by
 have := ok.u0
 have := ok.u1
 refine ⟨h.s ▸ ok.s1, h.s ▸ ok.s8, h.w ▸ ok.w1, h.w ▸ ok.w4, ?_, ?_⟩
 ·rcases h.u with e | e <;> omega
 ·rcases h.u with e | e <;> omega
theorem fill_like (c : Ca) (a b : Int) (d : Nat → Int) : Like c (fillC c a b d) := by
 unfold fillC
 repeat' split
 all_goals first | exact ⟨rfl, rfl, .inl rfl⟩ | exact ⟨rfl, rfl, .inr rfl⟩
theorem word_like (c : Ca) (a : Int) : Like c (wordC c a) := by
 unfold wordC
 repeat' split
 all_goals first | exact ⟨rfl, rfl, .inl rfl⟩ | exact ⟨rfl, rfl, .inr rfl⟩
theorem put_like (c : Ca) (a v : Int) : Like c (putC c a v) := by
 unfold putC
 repeat' split
 all_goals first | exact ⟨rfl, rfl, .inl rfl⟩ | exact ⟨rfl, rfl, .inr rfl⟩
theorem mark_like (c : Ca) (a : Int) (w : Bool) : Like c (markC c a w) := by
 unfold markC
 repeat' split
 all_goals exact ⟨rfl, rfl, .inl rfl⟩
theorem dem_like (c : Ca) (a : Int) : Like c (demC c a) := by
 unfold demC
 split
 all_goals exact ⟨rfl, rfl, .inl rfl⟩
theorem pro_like (c : Ca) (a : Int) (d : Nat → Int) : Like c (proC c a d) := by
 unfold proC
 split
 all_goals exact ⟨rfl, rfl, .inl rfl⟩
theorem drop_like (c : Ca) (a : Int) : Like c (dropC c a) := by
 unfold dropC
 split
 all_goals exact ⟨rfl, rfl, .inl rfl⟩
theorem com_like (c : Ca) : Like c (comC c) := ⟨rfl, rfl, .inl rfl⟩
theorem dis_like (c : Ca) : Like c (disC c) := ⟨rfl, rfl, .inl rfl⟩
theorem step_like (c : Ca) (x : Sp) : Like c (stepC c x) := by
 unfold stepC
 repeat' split
 all_goals first | exact fill_like _ _ _ _ | exact word_like _ _ | exact put_like _ _ _ | exact mark_like _ _ _ | exact dem_like _ _ | exact pro_like _ _ _ | exact drop_like _ _ | exact com_like _ | exact dis_like _ | exact Like.rfl' _
def playC (c : Ca) (l : List Sp) : Ca := l.foldl stepC c
theorem play_snoc (c : Ca) (l : List Sp) (x : Sp) : playC c (l ++ [x]) = stepC (playC c l) x := by unfold playC; rw [List.foldl_append]; rfl
theorem play_ok {c : Ca} (ok : CaOk c) : ∀ (l : List Sp), c.uses + l.length ≤ 1000000 → CaOk (playC c l) ∧ (playC c l).uses ≤ c.uses + l.length := by
 intro l
 induction l generalizing c with
 | nil => intro _; exact ⟨ok, by simp [playC]⟩
 | cons x l ih =>
  intro h
  simp only [List.length_cons] at h
  have hk := step_like c x
  have ok2 := hk.ok ok (by omega)
  have hu : (stepC c x).uses ≤ c.uses + 1 := by rcases hk.u with e | e <;> omega
  have := ih ok2 (by omega)
  refine ⟨this.1, ?_⟩
  have h2 := this.2
  show (playC (stepC c x) l).uses ≤ _
  simp only [List.length_cons]
  omega
theorem play9 {E0 : Env} {W : World} (gc gs : Nat) (c : Ca) (ok : CaOk c) (A : Option Addr) (cap : Nat) (l : List Sp) (hu : c.uses + l.length ≤ 1000000) (hL : RowE E0 A (cellsS l)) (hW : HeapOk E0 (caF gc gs c) W) :
  CallsV Try.prog 9 [.pointer (some ⟨gc, 0, none⟩), .slice A l.length cap] W fun v W' => v = .tuple #[] ∧ HeapOk E0 (caF gc gs (playC c l)) W' := by
 obtain ⟨b0, N, st, nt0, mk0⟩ := E0
 refine calls_lent (keep := K9) (nt := 78) (svs := [.ptr 0 0, .val (.slice A l.length cap)]) Try.func9 x9 n9 (by simp) hW (by simp [IsL, Is, caF, blk, nth, SO.blk]) fun R hR => ?_
 have hLE : RowE ⟨b0, N, st, 78, []⟩ A (cellsS l) := hL.env rfl rfl rfl
 have hu0 := ok.u0
 (refine Y_go 600 ?_; dsimp only [X9, numF, Nat.reduceAdd, caF, zq9r, zq9q, Y_k, zq4u, zq8p, zq6q, YK, zq8t, zq9i, normF, zq6n, Nat.reduceBEq, zq6l, zq6k, zq6m, zq86, zq87, zq8c, zq9t, zq9v])
 refine loop_go (α := Nat) (fun i => i ≤ l.length) (fun _ => ⟨b0, N, st, 78, []⟩)
  (fun i => { F := [(0, .ptr 0 0), (1, .val (.slice A l.length cap)), (4, .val (.int .i64 i))], H := caF gc gs (playC c (l.take i)) }) (fun i => l.length - i) (fun _ => rfl) ?start ?round
 case start =>
  intro a W rep
  exact ⟨0, Nat.zero_le _, rep.le (by simp only [caF]; (simp only [setn, List.nil_append, List.cons_append, leF, leH_nil, leH_cons, leF_nil, lk, scp, scpL, scpO, resF, resH, resO, resV, resVL, nth, Nat.reduceBEq, Nat.reduceLT, decide_true, decide_false, List.length, List.length_cons, List.length_nil, Nat.reduceAdd, Bool.and_self, Bool.and_true, and_true, true_and, numF] <;> try simp)) (by simp only [caF, show playC c (l.take 0) = c from rfl]; (simp only [setn, List.nil_append, List.cons_append, leF, leH_nil, leH_cons, leF_nil, lk, scp, scpL, scpO, resF, resH, resO, resV, resVL, nth, Nat.reduceBEq, Nat.reduceLT, decide_true, decide_false, List.length, List.length_cons, List.length_nil, Nat.reduceAdd, Bool.and_self, Bool.and_true, and_true, true_and, numF] <;> try simp))⟩
 case round =>
  rintro i hi I again
  have hpo := play_ok ok (l.take i) (by rw [List.length_take]; omega)
  rw [List.length_take] at hpo
  simp only [caF]
  (refine Y_go 600 ?_; dsimp only [zq9y, t9n21, T9n21, zq9r, zq9q, Y_k, zq4u, zq8o, zq6n, Nat.reduceBEq, zq6l, zq6k, YK, zq8t, zq55, zq0r, zq50, zq04, zq92, zq9b, zq0i, zq9e, zq9i, normF, zq6m, zq86, zq87, zq8c, zq9s, zq6h, zq8x, YC, zq9p, t9n20, T9n20, zq9t, zq58, zq06, zq0w, zq5c, zq1p, zq1c, List.nil_append, List.cons_append, zq1d, zq1b, zq17, zq5e, List.length_cons, List.length_nil, Nat.reduceAdd, List.map, zq6q, zq6p, zq5d, zq7t, zq8l, zq73, zq8m, zq7g, zq8k, zq0a, zq1x, nth, zq1t, dropL, takeL, zq1r, splice, setn, zq8s, zq89, t9n18, T9n18, zq5a, zq14, Nat.add_zero, zq1o, zq1k, zq19, zq18, t9n17, T9n17, zq8p, zq9c, t9n0, T9n0, zq9j, t9n16, T9n16, zq8a, t9n1, T9n1, t9n15, T9n15, t9n2, T9n2, t9n14, T9n14, t9n3, T9n3, t9n13, T9n13, t9n4, T9n4, t9n12, T9n12, t9n5, T9n5, t9n11, T9n11, t9n6, T9n6, t9n10, T9n10, t9n9, T9n9, t9n8, T9n8, t9n7, T9n7, zqa1, t9n19, T9n19, zq4w, zq0e, zqa2, zq9u, popTo, zq6i, YP, zqa3])
  refine ⟨fun hlt => ?_, fun hge => ?_⟩
  rotate_left
  ·have hie : i = l.length := by have := of_decide_eq_false hge; omega
   subst hie
   rw [List.take_of_length_le (Nat.le_refl _)]
   refine ret_rule (keep := K9) (tab := T9) (vs := []) r9 rfl rfl fun W hW => hR _ _ ⟨rfl, HeapOk.env (E := ⟨b0, N, st, 78, []⟩) (E' := ⟨b0, N, st, nt0, mk0⟩) rfl rfl rfl ?_⟩
   exact hW
  have hlt : i < l.length := by have := of_decide_eq_true hlt; omega
  have htk : l.take (i + 1) = l.take i ++ [l[i]] := by rw [List.take_add_one, List.getElem?_eq_getElem hlt]; rfl
  have cl : ∀ k v, (spV l[i])[k]? = some v → CellAt ⟨b0, N, st, 78, []⟩ A ((i : Int).toNat * 13 + k) v := by
   intro k v hk
   have := (List.getElem?_eq_some_iff.1 hk).1
   rw [Int.toNat_natCast]
   exact hLE.cell (by rw [cellsS_get l hlt this]; exact hk)
  have sA : A.isSome = true := RowE.isSome hLE (j := i * 13) (by rw [cellsS_len]; omega)
  generalize l[i] = x at htk cl
  have hsn := play_snoc c (l.take i) x
  rw [← htk] at hsn
  have hgo : ∀ c', playC c (l.take (i + 1)) = c' → ∀ (a : Act) (W : World), Rep ⟨b0, N, st, 78, []⟩ { F := [(0, .ptr 0 0), (1, .val (.slice A l.length cap)), (4, .val (.int .i64 ((i + 1 : Nat) : Int)))], H := caF gc gs c' } a W → I a W := fun c' h a W rep => again (i + 1) hlt (by omega) a W (by rw [h]; exact rep)
  have hadd : ArOk .add .i64 (i : Int) 1 ((i + 1 : Nat) : Int) := ArOk.to (by omega) (by omega) (by omega)
  generalize playC c (l.take i) = ci at hpo hsn ⊢
  obtain ⟨oki, hui⟩ := hpo
  have hsx : stepC ci x = if x.kind = 0 then fillC ci x.n x.state x.l else if x.kind = 1 then wordC ci x.n else if x.kind = 2 then putC ci x.n x.v else if x.kind = 3 then markC ci x.n x.write else if x.kind = 4 then demC ci x.n else if x.kind = 5 then proC ci x.n x.l else if x.kind = 6 then dropC ci x.n else if x.kind = 7 then comC ci else if x.kind = 8 then disC ci else ci := rfl
  have d0 := cl 0 _ rfl
  refine ⟨⟨by omega, by omega, sA⟩, _, cl 0 _ rfl, _, cl 1 _ rfl, _, cl 2 _ rfl, _, cl 3 _ rfl, _, cl 4 _ rfl, _, cl 5 _ rfl, _, cl 6 _ rfl, _, cl 7 _ rfl, _, cl 8 _ rfl, _, cl 9 _ rfl, _, cl 10 _ rfl, _, cl 11 _ rfl, _, cl 12 _ rfl, fun gx => ?_⟩
  clear cl
  refine ⟨fun q0 => ?_, fun q0 => ⟨fun q1 => ?_, fun q1 => ⟨fun q2 => ?_, fun q2 => ⟨fun q3 => ?_, fun q3 => ⟨fun q4 => ?_, fun q4 => ⟨fun q5 => ?_, fun q5 => ⟨fun q6 => ?_, fun q6 => ⟨fun q7 => ?_, fun q7 => ⟨fun q8 => ?_, fun q8 => ?_⟩⟩⟩⟩⟩⟩⟩⟩⟩
  ·have hk : x.kind = 0 := by simpa using q0
   refine call_ca gc gs ci (fillC ci x.n x.state x.l) _ .unk [_] rfl rfl (fun W _ hh => fill19 gc gs ci oki x.n x.state x.l hh) (fun _ => trivial) ?_
   dsimp only [zq8t, caF, List.cons_append, List.nil_append]
   (refine Y_go 600 ?_; dsimp only [zq9i, normF, zq6n, Nat.reduceBEq, zq6l, zq6k, zq6m, zq86, zq89, zq87, zq8c, zqa1, zq9y, t9n19, T9n19, zq9q, Y_k, zq4u, zq8o, YK, zq8t, zq4w, zq8p, zq6q, zq04, zq92, zq9b, zq0e, zqa2])
   exact ⟨_, hadd, lend_rule fun a W rep => hgo (fillC ci x.n x.state x.l) (by rw [hsn, hsx, hk]; rfl) a W (rep.le (by simp only [caF]; (simp only [setn, List.nil_append, List.cons_append, leF, leH_nil, leH_cons, leF_nil, lk, scp, scpL, scpO, resF, resH, resO, resV, resVL, nth, Nat.reduceBEq, Nat.reduceLT, decide_true, decide_false, List.length, List.length_cons, List.length_nil, Nat.reduceAdd, Bool.and_self, Bool.and_true, and_true, true_and, numF] <;> try simp)) (by simp only [caF]; (simp only [setn, List.nil_append, List.cons_append, leF, leH_nil, leH_cons, leF_nil, lk, scp, scpL, scpO, resF, resH, resO, resV, resVL, nth, Nat.reduceBEq, Nat.reduceLT, decide_true, decide_false, List.length, List.length_cons, List.length_nil, Nat.reduceAdd, Bool.and_self, Bool.and_true, and_true, true_and, numF] <;> try simp)))⟩
  ·have hk : x.kind = 1 := by simpa using q1
   refine call_ca gc gs ci (wordC ci x.n) _ .unk [_] rfl rfl (fun W _ hh => word14 gc gs ci oki x.n hh) (fun _ => trivial) ?_
   dsimp only [zq8t, caF, List.cons_append, List.nil_append]
   (refine Y_go 600 ?_; dsimp only [zq9i, normF, zq6n, Nat.reduceBEq, zq6l, zq6k, zq6m, zq86, zq89, zq8a, zq87, zq8c, zqa1, zq9y, t9n19, T9n19, zq9q, Y_k, zq4u, zq8o, YK, zq8t, zq4w, zq8p, zq6q, zq04, zq92, zq9b, zq0e, zqa2])
   exact ⟨_, hadd, lend_rule fun a W rep => hgo (wordC ci x.n) (by rw [hsn, hsx, hk]; rfl) a W (rep.le (by simp only [caF]; (simp only [setn, List.nil_append, List.cons_append, leF, leH_nil, leH_cons, leF_nil, lk, scp, scpL, scpO, resF, resH, resO, resV, resVL, nth, Nat.reduceBEq, Nat.reduceLT, decide_true, decide_false, List.length, List.length_cons, List.length_nil, Nat.reduceAdd, Bool.and_self, Bool.and_true, and_true, true_and, numF] <;> try simp)) (by simp only [caF]; (simp only [setn, List.nil_append, List.cons_append, leF, leH_nil, leH_cons, leF_nil, lk, scp, scpL, scpO, resF, resH, resO, resV, resVL, nth, Nat.reduceBEq, Nat.reduceLT, decide_true, decide_false, List.length, List.length_cons, List.length_nil, Nat.reduceAdd, Bool.and_self, Bool.and_true, and_true, true_and, numF] <;> try simp)))⟩
  ·have hk : x.kind = 2 := by simpa using q2
   refine call_ca gc gs ci (putC ci x.n x.v) _ .unk [_] rfl rfl (fun W _ hh => put13 gc gs ci oki x.n x.v hh) (fun _ => trivial) ?_
   dsimp only [zq8t, caF, List.cons_append, List.nil_append]
   (refine Y_go 600 ?_; dsimp only [zq9i, normF, zq6n, Nat.reduceBEq, zq6l, zq6k, zq6m, zq86, zq89, zq8a, zq87, zq8c, zqa1, zq9y, t9n19, T9n19, zq9q, Y_k, zq4u, zq8o, YK, zq8t, zq4w, zq8p, zq6q, zq04, zq92, zq9b, zq0e, zqa2])
   exact ⟨_, hadd, lend_rule fun a W rep => hgo (putC ci x.n x.v) (by rw [hsn, hsx, hk]; rfl) a W (rep.le (by simp only [caF]; (simp only [setn, List.nil_append, List.cons_append, leF, leH_nil, leH_cons, leF_nil, lk, scp, scpL, scpO, resF, resH, resO, resV, resVL, nth, Nat.reduceBEq, Nat.reduceLT, decide_true, decide_false, List.length, List.length_cons, List.length_nil, Nat.reduceAdd, Bool.and_self, Bool.and_true, and_true, true_and, numF] <;> try simp)) (by simp only [caF]; (simp only [setn, List.nil_append, List.cons_append, leF, leH_nil, leH_cons, leF_nil, lk, scp, scpL, scpO, resF, resH, resO, resV, resVL, nth, Nat.reduceBEq, Nat.reduceLT, decide_true, decide_false, List.length, List.length_cons, List.length_nil, Nat.reduceAdd, Bool.and_self, Bool.and_true, and_true, true_and, numF] <;> try simp)))⟩
  ·have hk : x.kind = 3 := by simpa using q3
   refine call_ca gc gs ci (markC ci x.n x.write) _ .unk [_] rfl rfl (fun W _ hh => mark12 gc gs ci oki x.n x.write hh) (fun _ => trivial) ?_
   dsimp only [zq8t, caF, List.cons_append, List.nil_append]
   (refine Y_go 600 ?_; dsimp only [zq9i, normF, zq6n, Nat.reduceBEq, zq6l, zq6k, zq6m, zq86, zq89, zq8a, zq87, zq8c, zqa1, zq9y, t9n19, T9n19, zq9q, Y_k, zq4u, zq8o, YK, zq8t, zq4w, zq8p, zq6q, zq04, zq92, zq9b, zq0e, zqa2])
   exact ⟨_, hadd, lend_rule fun a W rep => hgo (markC ci x.n x.write) (by rw [hsn, hsx, hk]; rfl) a W (rep.le (by simp only [caF]; (simp only [setn, List.nil_append, List.cons_append, leF, leH_nil, leH_cons, leF_nil, lk, scp, scpL, scpO, resF, resH, resO, resV, resVL, nth, Nat.reduceBEq, Nat.reduceLT, decide_true, decide_false, List.length, List.length_cons, List.length_nil, Nat.reduceAdd, Bool.and_self, Bool.and_true, and_true, true_and, numF] <;> try simp)) (by simp only [caF]; (simp only [setn, List.nil_append, List.cons_append, leF, leH_nil, leH_cons, leF_nil, lk, scp, scpL, scpO, resF, resH, resO, resV, resVL, nth, Nat.reduceBEq, Nat.reduceLT, decide_true, decide_false, List.length, List.length_cons, List.length_nil, Nat.reduceAdd, Bool.and_self, Bool.and_true, and_true, true_and, numF] <;> try simp)))⟩
  ·have hk : x.kind = 4 := by simpa using q4
   refine call_ca gc gs ci (demC ci x.n) _ .unk [_] rfl rfl (fun W _ hh => demote21 gc gs ci oki x.n hh) (fun _ => trivial) ?_
   dsimp only [zq8t, caF, List.cons_append, List.nil_append]
   (refine Y_go 600 ?_; dsimp only [zq9i, normF, zq6n, Nat.reduceBEq, zq6l, zq6k, zq6m, zq86, zq89, zq8a, zq87, zq8c, zqa1, zq9y, t9n19, T9n19, zq9q, Y_k, zq4u, zq8o, YK, zq8t, zq4w, zq8p, zq6q, zq04, zq92, zq9b, zq0e, zqa2])
   exact ⟨_, hadd, lend_rule fun a W rep => hgo (demC ci x.n) (by rw [hsn, hsx, hk]; rfl) a W (rep.le (by simp only [caF]; (simp only [setn, List.nil_append, List.cons_append, leF, leH_nil, leH_cons, leF_nil, lk, scp, scpL, scpO, resF, resH, resO, resV, resVL, nth, Nat.reduceBEq, Nat.reduceLT, decide_true, decide_false, List.length, List.length_cons, List.length_nil, Nat.reduceAdd, Bool.and_self, Bool.and_true, and_true, true_and, numF] <;> try simp)) (by simp only [caF]; (simp only [setn, List.nil_append, List.cons_append, leF, leH_nil, leH_cons, leF_nil, lk, scp, scpL, scpO, resF, resH, resO, resV, resVL, nth, Nat.reduceBEq, Nat.reduceLT, decide_true, decide_false, List.length, List.length_cons, List.length_nil, Nat.reduceAdd, Bool.and_self, Bool.and_true, and_true, true_and, numF] <;> try simp)))⟩
  ·have hk : x.kind = 5 := by simpa using q5
   refine call_ca gc gs ci (proC ci x.n x.l) _ .unk [_] rfl rfl (fun W _ hh => promote22 gc gs ci oki x.n x.l hh) (fun _ => trivial) ?_
   dsimp only [zq8t, caF, List.cons_append, List.nil_append]
   (refine Y_go 600 ?_; dsimp only [zq9i, normF, zq6n, Nat.reduceBEq, zq6l, zq6k, zq6m, zq86, zq89, zq8a, zq87, zq8c, zqa1, zq9y, t9n19, T9n19, zq9q, Y_k, zq4u, zq8o, YK, zq8t, zq4w, zq8p, zq6q, zq04, zq92, zq9b, zq0e, zqa2])
   exact ⟨_, hadd, lend_rule fun a W rep => hgo (proC ci x.n x.l) (by rw [hsn, hsx, hk]; rfl) a W (rep.le (by simp only [caF]; (simp only [setn, List.nil_append, List.cons_append, leF, leH_nil, leH_cons, leF_nil, lk, scp, scpL, scpO, resF, resH, resO, resV, resVL, nth, Nat.reduceBEq, Nat.reduceLT, decide_true, decide_false, List.length, List.length_cons, List.length_nil, Nat.reduceAdd, Bool.and_self, Bool.and_true, and_true, true_and, numF] <;> try simp)) (by simp only [caF]; (simp only [setn, List.nil_append, List.cons_append, leF, leH_nil, leH_cons, leF_nil, lk, scp, scpL, scpO, resF, resH, resO, resV, resVL, nth, Nat.reduceBEq, Nat.reduceLT, decide_true, decide_false, List.length, List.length_cons, List.length_nil, Nat.reduceAdd, Bool.and_self, Bool.and_true, and_true, true_and, numF] <;> try simp)))⟩
  ·have hk : x.kind = 6 := by simpa using q6
   refine call_ca gc gs ci (dropC ci x.n) _ .unk [_] rfl rfl (fun W _ hh => drop23 gc gs ci oki x.n hh) (fun _ => trivial) ?_
   dsimp only [zq8t, caF, List.cons_append, List.nil_append]
   (refine Y_go 600 ?_; dsimp only [zq9i, normF, zq6n, Nat.reduceBEq, zq6l, zq6k, zq6m, zq86, zq89, zq8a, zq87, zq8c, zqa1, zq9y, t9n19, T9n19, zq9q, Y_k, zq4u, zq8o, YK, zq8t, zq4w, zq8p, zq6q, zq04, zq92, zq9b, zq0e, zqa2])
   exact ⟨_, hadd, lend_rule fun a W rep => hgo (dropC ci x.n) (by rw [hsn, hsx, hk]; rfl) a W (rep.le (by simp only [caF]; (simp only [setn, List.nil_append, List.cons_append, leF, leH_nil, leH_cons, leF_nil, lk, scp, scpL, scpO, resF, resH, resO, resV, resVL, nth, Nat.reduceBEq, Nat.reduceLT, decide_true, decide_false, List.length, List.length_cons, List.length_nil, Nat.reduceAdd, Bool.and_self, Bool.and_true, and_true, true_and, numF] <;> try simp)) (by simp only [caF]; (simp only [setn, List.nil_append, List.cons_append, leF, leH_nil, leH_cons, leF_nil, lk, scp, scpL, scpO, resF, resH, resO, resV, resVL, nth, Nat.reduceBEq, Nat.reduceLT, decide_true, decide_false, List.length, List.length_cons, List.length_nil, Nat.reduceAdd, Bool.and_self, Bool.and_true, and_true, true_and, numF] <;> try simp)))⟩
  ·have hk : x.kind = 7 := by simpa using q7
   refine call_ca gc gs ci (comC ci) _ .unk [_] rfl rfl (fun W _ hh => commit10 gc gs ci oki hh) (fun _ => trivial) ?_
   dsimp only [zq8t, caF, List.cons_append, List.nil_append]
   (refine Y_go 600 ?_; dsimp only [zq9i, normF, zq6n, Nat.reduceBEq, zq6l, zq6k, zq6m, zq86, zq89, zq8a, zq87, zq8c, zqa1, zq9y, t9n19, T9n19, zq9q, Y_k, zq4u, zq8o, YK, zq8t, zq4w, zq8p, zq6q, zq04, zq92, zq9b, zq0e, zqa2])
   exact ⟨_, hadd, lend_rule fun a W rep => hgo (comC ci) (by rw [hsn, hsx, hk]; rfl) a W (rep.le (by simp only [caF]; (simp only [setn, List.nil_append, List.cons_append, leF, leH_nil, leH_cons, leF_nil, lk, scp, scpL, scpO, resF, resH, resO, resV, resVL, nth, Nat.reduceBEq, Nat.reduceLT, decide_true, decide_false, List.length, List.length_cons, List.length_nil, Nat.reduceAdd, Bool.and_self, Bool.and_true, and_true, true_and, numF] <;> try simp)) (by simp only [caF]; (simp only [setn, List.nil_append, List.cons_append, leF, leH_nil, leH_cons, leF_nil, lk, scp, scpL, scpO, resF, resH, resO, resV, resVL, nth, Nat.reduceBEq, Nat.reduceLT, decide_true, decide_false, List.length, List.length_cons, List.length_nil, Nat.reduceAdd, Bool.and_self, Bool.and_true, and_true, true_and, numF] <;> try simp)))⟩
  ·have hk : x.kind = 8 := by simpa using q8
   refine call_ca gc gs ci (disC ci) _ .unk [_] rfl rfl (fun W _ hh => discard15 gc gs ci oki hh) (fun _ => trivial) ?_
   dsimp only [zq8t, caF, List.cons_append, List.nil_append]
   (refine Y_go 600 ?_; dsimp only [zq9i, normF, zq6n, Nat.reduceBEq, zq6l, zq6k, zq89, zq8a, zq87, zq8c, zqa1, zq9y, t9n19, T9n19, zq9q, Y_k, zq4u, zq8o, YK, zq8t, zq4w, zq8p, zq6q, zq04, zq92, zq9b, zq0e, zqa2])
   exact ⟨_, hadd, lend_rule fun a W rep => hgo (disC ci) (by rw [hsn, hsx, hk]; rfl) a W (rep.le (by simp only [caF]; (simp only [setn, List.nil_append, List.cons_append, leF, leH_nil, leH_cons, leF_nil, lk, scp, scpL, scpO, resF, resH, resO, resV, resVL, nth, Nat.reduceBEq, Nat.reduceLT, decide_true, decide_false, List.length, List.length_cons, List.length_nil, Nat.reduceAdd, Bool.and_self, Bool.and_true, and_true, true_and, numF] <;> try simp)) (by simp only [caF]; (simp only [setn, List.nil_append, List.cons_append, leF, leH_nil, leH_cons, leF_nil, lk, scp, scpL, scpO, resF, resH, resO, resV, resVL, nth, Nat.reduceBEq, Nat.reduceLT, decide_true, decide_false, List.length, List.length_cons, List.length_nil, Nat.reduceAdd, Bool.and_self, Bool.and_true, and_true, true_and, numF] <;> try simp)))⟩
  ·exact ⟨_, hadd, lend_rule fun a W rep => hgo ci (by rw [hsn, hsx, if_neg (by simpa using q0), if_neg (by simpa using q1), if_neg (by simpa using q2), if_neg (by simpa using q3), if_neg (by simpa using q4), if_neg (by simpa using q5), if_neg (by simpa using q6), if_neg (by simpa using q7), if_neg (by simpa using q8)]) a W (rep.le (by simp only [caF]; (simp only [setn, List.nil_append, List.cons_append, leF, leH_nil, leH_cons, leF_nil, lk, scp, scpL, scpO, resF, resH, resO, resV, resVL, nth, Nat.reduceBEq, Nat.reduceLT, decide_true, decide_false, List.length, List.length_cons, List.length_nil, Nat.reduceAdd, Bool.and_self, Bool.and_true, and_true, true_and, numF] <;> try simp)) (by simp only [caF]; (simp only [setn, List.nil_append, List.cons_append, leF, leH_nil, leH_cons, leF_nil, lk, scp, scpL, scpO, resF, resH, resO, resV, resVL, nth, Nat.reduceBEq, Nat.reduceLT, decide_true, decide_false, List.length, List.length_cons, List.length_nil, Nat.reduceAdd, Bool.and_self, Bool.and_true, and_true, true_and, numF] <;> try simp)))⟩
end Go.Proofs.Ytimmobbginjkfaa
