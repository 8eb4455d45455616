/- The document's Fold. -/
import Derived.Test.YtlbiogokpadaoaaGreatDoorBgOne
import Derived.Test.YtlbiogokpadaoaaGreatDoorDoW3
import Derived.Test.YtlbiogokpadaoaaGreatDoorRpW1
import Derived.Test.YtlbiogokpadaoaaGreatDoorRfRd
import Derived.Test.YtlbiogokpadaoaaGreatDoorFdCode
import Derived.Test.YtlbiogokpadaoaaGreatDoorBgCodeThr
set_option linter.unusedSimpArgs false
set_option linter.unusedVariables false
set_option linter.unnecessarySimpa false
namespace Go.Proofs.YtlbiogokpadaoaaGreatDoor
open Go Go.Sx Go.Isa Go.Lint
set_option maxRecDepth 100000
def knB (s : List (Option Int)) : List Value := s.map fun o => .bool o.isSome
def rgV (s : List (Option Int)) : List Value := (rgO s).map uV
theorem knB_set {s : List (Option Int)} {j : Nat} {b : Bool} {o : Option Int} (h : o.isSome = b) : setn (knB s) j (.bool b) = knB (s.set j o) := by
 unfold knB; rw [setn_eq, List.map_set, h]
theorem rgV_set {s : List (Option Int)} {j : Nat} {v : Int} {o : Option Int} (h : o.getD 0 = v) : setn (rgV s) j (.int .u64 v) = rgV (s.set j o) := by
 unfold rgV rgO; rw [setn_eq, List.map_set, List.map_set, h]; rfl
theorem fdT_same {l : List In} {i : Nat} {x : In} (hx : l[i]? = some x) (h : foldA l i x = x) : fdT l (i + 1) = fdT l i := by
 have hil := (List.getElem?_eq_some_iff.1 hx).1
 rw [← fdT_step hx, h]
 apply List.ext_getElem?
 intro j
 rw [List.getElem?_set]
 by_cases e : i = j
 ·subst e
  rw [if_pos rfl, if_pos (by rw [fdT_len]; exact hil)]
  unfold fdT
  rw [List.getElem?_append_right (by rw [List.length_take]; omega), List.getElem?_drop, List.length_take, foldL_len, show min i l.length = i by omega, Nat.sub_self, Nat.add_zero, hx]
 ·rw [if_neg e]
theorem knB_get {s : List (Option Int)} (hs : s.length = 8) {n : Int} (h0 : 0 ≤ n) (h1 : n < 8) : (knB s)[0 + n.toNat * 1]? = some (.bool (knO s n)) := by
 have h : n.toNat < s.length := by omega
 rw [Nat.zero_add, Nat.mul_one]
 unfold knB knO
 rw [List.getElem?_map, List.getD_eq_getElem?_getD, List.getElem?_eq_getElem h]; rfl
theorem knB_len (s : List (Option Int)) : (knB s).length = s.length := by simp [knB]
theorem rgV_len (s : List (Option Int)) : (rgV s).length = s.length := by simp [rgV, rgO]
theorem rep_bool {E : Env} {F : List (Nat × SV)} {H : List SO} {a : Act} {W : World} (rep : Rep E { F := F, H := H } a W) (d : Nat) {q : Bool} (h : lk F d = .val (.bool q)) : Rep E { F := (d, bsv q) :: F, H := H } a W :=
 ⟨rep.size, fun e => by
  have hf : Is H (lk F e) _ := rep.frame e
  show Is H (lk ((d, bsv q) :: F) e) _
  rw [zq6n]
  by_cases hde : d = e
  ·subst hde
   rw [h] at hf
   rw [beq_self_eq_true]
   cases q <;> simpa [bsv, Is, zq6k] using hf
  ·rw [show (d == e) = false by simpa using hde, zq6l]; exact hf, rep.defers, rep.heap⟩
section
variable {x : In} {s : List (Option Int)} {i : Nat} (hb : legalB x = true)
theorem fd_br (h : (goK x == 2) = true) : 14 ≤ x.op ∧ x.op ≤ 16 := by
 rw [goK_brG] at h
 unfold brG at h
 simp only [Bool.and_eq_true, decide_eq_true_eq] at h
 exact h.2
include hb
omit hb in
theorem fd_reads (h : (goK x == 2) = true) : (readsL x).all (knO s) = (knO s x.a && knO s x.b) := by
 have := fd_br h
 unfold readsL
 rw [if_neg (by omega), if_neg (by omega), if_pos (.inr this)]; simp
theorem fd_nopA (h : (goK x == 2) = true) (hq : false = (readsL x).all (knO s)) : foldI x s i = (x, s) := by
 rw [fd_reads h] at hq
 rw [goK_brG] at h
 unfold foldI
 rw [hb, h, ← hq]; rfl
theorem fd_jmp (h : (goK x == 2) = true) (hq : true = (readsL x).all (knO s)) : foldI x s i = (⟨13, 0, 0, 0, (doB x (rgO s) i).next⟩, s) := by
 rw [fd_reads h] at hq
 rw [goK_brG] at h
 unfold foldI
 rw [hb, h, ← hq]; rfl
omit hb in
theorem fd_lo (h : x.op < 14) : brG x = false := by
 cases h2 : brG x with
 | false => rfl
 | true => rw [← goK_brG] at h2; have := fd_br h2; omega
theorem fd_nop (h : (goK x == 2) = false) (h1 : (x.op == 11) = false) (h2 : x.op < 2 ∨ 10 < x.op) : foldI x s i = (x, s) := by
 rw [goK_brG] at h
 unfold foldI
 rw [hb, h, if_neg (by simp), if_neg (by simp), if_neg (by simpa using h1), if_pos h2]
theorem fd_11 (h1 : (x.op == 11) = true) : foldI x s i = (x, s.set x.a.toNat none) := by
 have h1 : x.op = 11 := by simpa using h1
 unfold foldI
 rw [hb, fd_lo (by omega), if_neg (by simp), if_neg (by simp), if_pos h1]
theorem fd_mid (h2 : decide (x.op ≥ 2) = true) (h3 : decide (x.op ≤ 10) = true) : foldI x s i = if (readsL x).all (knO s) then (if x.op ≠ 2 ∧ smallU (doB x (rgO s) i).value = true then ⟨2, x.a, 0, 0, sgnU (doB x (rgO s) i).value⟩ else x, s.set x.a.toNat (some (doB x (rgO s) i).value)) else (x, s.set x.a.toNat none) := by
 have h2 := of_decide_eq_true h2
 have h3 := of_decide_eq_true h3
 have hk : (readsL x).all (knO s) = foldK x s := by
  unfold readsL foldK
  by_cases e2 : x.op = 2
  ·rw [if_pos e2, if_neg (by omega), if_neg (by omega), if_neg (by omega)]; rfl
  ·by_cases e3 : x.op = 3
   ·rw [if_neg e2, if_pos e3, if_pos (.inl e3)]; simp
   ·rw [if_neg e2, if_neg e3, if_neg (by omega), if_pos ⟨by omega, h3⟩]; simp
 rw [hk]
 unfold foldI
 rw [hb, fd_lo (by omega), if_neg (by simp), if_neg (by simp), if_neg (by omega), if_neg (by omega)]
theorem fd_0 (h2 : decide (x.op ≥ 2) = true) (h3 : decide (x.op ≤ 10) = true) (hq : false = (readsL x).all (knO s)) : foldI x s i = (x, s.set x.a.toNat none) := by
 rw [fd_mid hb h2 h3, ← hq]; rfl
theorem fd_1 (h2 : decide (x.op ≥ 2) = true) (h3 : decide (x.op ≤ 10) = true) (hq : true = (readsL x).all (knO s)) (hn : (x.op != 2) = false ∨ smallU (doB x (rgO s) i).value = false) : foldI x s i = (x, s.set x.a.toNat (some (doB x (rgO s) i).value)) := by
 rw [fd_mid hb h2 h3, ← hq, if_pos rfl, if_neg]
 rintro ⟨h4, h5⟩
 rcases hn with h | h
 ·exact h4 (by simpa using h)
 ·rw [h] at h5; cases h5
theorem fd_w (h2 : decide (x.op ≥ 2) = true) (h3 : decide (x.op ≤ 10) = true) (hq : true = (readsL x).all (knO s)) (hn : (x.op != 2) = true) (hv : smallU (doB x (rgO s) i).value = true) : foldI x s i = (⟨2, x.a, 0, 0, sgnU (doB x (rgO s) i).value⟩, s.set x.a.toNat (some (doB x (rgO s) i).value)) := by
 rw [fd_mid hb h2 h3, ← hq, if_pos rfl, if_pos ⟨by simpa using hn, hv⟩]
end
theorem fd_no11 {x : In} (h : (x.op == 11) = true) : ¬ 14 ≤ x.op := by
 have h : x.op = 11 := by simpa using h
 omega
theorem sm_lo {v : Int} (h : decide (v ≤ 2147483647) = true) : smallU v = true := by unfold smallU; rw [h]; rfl
theorem sm_hi {v : Int} (h : decide (v ≥ 18446744071562067968) = true) : smallU v = true := by unfold smallU; rw [show decide (18446744071562067968 ≤ v) = true from h, Bool.or_true]
theorem sm_no {v : Int} (h : decide (v ≤ 2147483647) = false) (h2 : decide (v ≥ 18446744071562067968) = false) : smallU v = false := by unfold smallU; rw [h, show decide (18446744071562067968 ≤ v) = false from h2]; rfl
set_option maxHeartbeats 20000000 in
theorem fold61 (l : List In) (B : Option Addr) (bc : Nat) (w : World) (hB : RowAt w B (cellsI l)) (hl : l.length ≤ 1024) :
  CallsV Tryz.prog 61 [.slice B l.length bc] w fun v w' => World.ownsB w' w.heap.size 41 5 v l.length (cellsI (foldL l)) ∧ Fresh w w' := by
 refine calls_go (keep := K61) (nt := 149) (svs := [.val (.slice B l.length bc)]) Tryz.func61 x61 n61 (by simp) (by simp [IsL, Is]) fun R hR => ?_
 (refine Y_go 600 ?_; dsimp only [X61, numF, Nat.reduceAdd, zq9r, zq9q, Y_k, zq4u, zq8p, zq6u, YK, zq8t, zq9i, normF, zq6n, Nat.reduceBEq, zq6l, zq6k, zq6m, zq86, zq87, zq9y, t61n32, T61n32, zq8o, zq9j])
 refine call_own (vs := [.slice B l.length bc]) rfl (fun W hW => twin29 B bc l W (hB.keep hW.fresh') (by omega)) fun oA oC => ?_
 simp only [putF, List.nil_append, List.length_nil]
 (refine Y_go 600 ?_; dsimp only [Y_k, zq4u, zq8o, zq6n, Nat.reduceBEq, zq6k, YK, zq8t, zq9i, normF, zq6l, zq6m, zq86, zq8f, zq87, zq9y, t61n31, T61n31, zq9r, zq9q, zq9j])
 refine call_rule (vs := [.slice B l.length bc]) rfl (R := fun W v W' => PartsR l W v W') (fun W hW => parts89 l B bc W hl (hB.keep hW.fresh')) fun W v W' hW ⟨pA, pc, ps, hv, k1, k2, _, _, k4⟩ => ?_
 obtain ⟨A, c, e, hx, hh, hi⟩ := hW.gain k2 k4
 subst hv
 refine ⟨_, _, hi, hx, hh, ?_⟩
 clear hx hh hi k2 k4 e hW
 (refine Y_go 600 ?_; dsimp only [List.length_cons, List.length_nil, Nat.reduceAdd, zq8t, List.cons_append, List.nil_append, Y_k, zq4u, zq8o, zq6n, Nat.reduceBEq, zq6k, YK, zq9i, normF, zq6l, zq6m, zq86, zq8f, zq87, zq9y, t61n30, T61n30, zq9r, zq9q, zq8p, zq6q, zq9t, zq9v])
 refine loop_go (α := Nat × Nat) (fun q => q.1 ≤ ps.length ∧ ((bgL l)[q.1]?).getD (l.length : Int) = (q.2 : Int) ∧ q.2 ≤ l.length) (fun _ => ⟨w, w.heap.size, [], 149, []⟩) (fun q => { F := [(0, .val (.slice B l.length bc)), (3, .own 0 0), (4, .own 1 0), (5, .val (.int .i64 (q.1 : Int)))], H := [.own 41 0 5 oA l.length oC (cellsI (fdT l q.2)), .own 35 0 3 A ps.length c (cellsR ps)] }) (fun q => ps.length - q.1) (fun _ => rfl) ?start ?round
 case start =>
  intro a W rep
  exact ⟨(0, 0), ⟨Nat.zero_le _, bgL_first l, Nat.zero_le _⟩, rep.le (by (simp only [renF, renV, renVL, renO, pickH, pickE, posOf, setn, List.nil_append, List.cons_append, leF, leH_nil, leH_cons, leF_nil, lk, scp, scpL, scpO, resF, resH, resO, resV, resVL, nth, Nat.reduceBEq, Nat.reduceLT, decide_true, decide_false, List.length, List.length_cons, List.length_nil, Nat.reduceAdd, Bool.and_self, Bool.and_true, and_true, true_and, numF] <;> try simp)) (by rw [fdT_zero]; (simp only [renF, renV, renVL, renO, pickH, pickE, posOf, setn, List.nil_append, List.cons_append, leF, leH_nil, leH_cons, leF_nil, lk, scp, scpL, scpO, resF, resH, resO, resV, resVL, nth, Nat.reduceBEq, Nat.reduceLT, decide_true, decide_false, List.length, List.length_cons, List.length_nil, Nat.reduceAdd, Bool.and_self, Bool.and_true, and_true, true_and, numF] <;> try simp))⟩
 case round =>
  rintro ⟨k, m⟩ ⟨hk, hm, hml⟩ I again
  have hk : k ≤ ps.length := hk
  have hm : ((bgL l)[k]?).getD (l.length : Int) = (m : Int) := hm
  have hml : m ≤ l.length := hml
  have hpl := partsR_len k1
  have hbn := bgL_len l
  (refine Y_go 600 ?_; dsimp only [zq9y, t61n28, T61n28, zq9r, zq9q, Y_k, zq4u, zq8o, zq6n, Nat.reduceBEq, zq6l, zq6k, YK, zq8t, zq55, zq0t, nth, zq09, zq08, zq0q, zq50, zq04, zq92, zq9b, zq0i, zq9e, zq9i, normF, zq6m, zq86, zq87, zq8f, zq9s, zq6h, zq8x, YC, zq9p, t61n27, T61n27, zq9t, zq5e, List.length_cons, List.length_nil, Nat.reduceAdd, List.map, zq6q, List.cons_append, List.nil_append, zq89, zq8c, t61n25, T61n25, zq6p, t61n24, T61n24, zq58, zq06, zq0y, zq0v, zq5a, zq15, Nat.add_zero, zq13, zq5c, zq1q, zq1n, zq1c, zq1b, zq18, zq9v, zq9u, popTo, zq6i, YP, t61n29, T61n29, zq8a, zq9x])
  refine ⟨fun hlt => ?_, fun hge => ?_⟩
  ·have hlt : k < ps.length := by have := of_decide_eq_true hlt; omega
   have hpr : ps[k]? = some ps[k] := List.getElem?_eq_getElem hlt
   have hpa : (ps[k]).pa = partL l (bgL l) k := by
    have h := congrArg (fun z => z[k]?) k1
    simp only [List.getElem?_map, hpr, Option.map_some] at h
    rw [partsL_get (by omega)] at h
    injection h
   generalize hpe : ps[k] = pr at hpr hpa
   have hx : (bgL l)[k]? = some (m : Int) := by
    have h := List.getElem?_eq_getElem (l := bgL l) (i := k) (by omega)
    rw [h, Option.getD_some] at hm; rw [h, hm]
   have efr : pr.pa.fr = m := by rw [hpa]; show (bgL l).getD _ 0 = _; rw [List.getD_eq_getElem?_getD, hx]; rfl
   obtain ⟨hto1, hto2⟩ := toL_range hx
   obtain ⟨to, hto⟩ : ∃ to : Nat, toL l.length (bgL l) k = (to : Int) := ⟨(toL l.length (bgL l) k).toNat, by omega⟩
   have eto : pr.pa.to = to := by rw [hpa]; exact hto
   rw [hto] at hto1 hto2
   have hk1' : ((k : Nat) : Int).toNat = k := by omega
   have q0 : (cellsR ps)[k * 3]? = some (.int .i64 (m : Int)) := by rw [← efr]; have := cellsR_get (k := 0) hpr (by omega); rw [Nat.add_zero] at this; rw [this]; rfl
   have q1 : (cellsR ps)[k * 3 + 1]? = some (.int .i64 (to : Int)) := by rw [← eto, cellsR_get hpr (by omega)]; rfl
   intro g6 g7
   rw [hk1']
   refine ⟨⟨by omega, by omega⟩, _, q0, ?_⟩
   refine loop_go (α := Nat × List (Option Int)) (fun q => m ≤ q.1 ∧ q.1 ≤ to ∧ stOk q.2 ∧ (q.1 < to → q.2 = stA l (bgL l) q.1)) (fun _ => ⟨w, w.heap.size, [], 149, []⟩) (fun q => { F := [(0, .val (.slice B l.length bc)), (3, .own 0 0), (4, .own 1 0), (5, .val (.int .i64 (k : Int))), (6, .ptr 2 0), (7, .ptr 3 0), (8, .val (.int .i64 (q.1 : Int)))], H := [.own 41 0 5 oA l.length oC (cellsI (fdT l q.1)), .own 35 0 3 A ps.length c (cellsR ps), .row g6 50 (rgV q.2), .row g7 135 (knB q.2)] }) (fun q => to - q.1) (fun _ => rfl) ?start2 ?round2
   case start2 =>
    intro a W rep
    have rep1 := (rep.torow 2 rfl rfl).torow 3 rfl rfl
    refine ⟨(m, St0), ⟨Nat.le_refl _, by show m ≤ to; omega, stOk0, fun _ => (stA_beg (List.mem_of_getElem? hx)).symm⟩, ?_⟩
    exact rep1.le (by (simp only [renF, renV, renVL, renO, pickH, pickE, posOf, setn, List.nil_append, List.cons_append, leF, leH_nil, leH_cons, leF_nil, lk, scp, scpL, scpO, resF, resH, resO, resV, resVL, nth, Nat.reduceBEq, Nat.reduceLT, decide_true, decide_false, List.length, List.length_cons, List.length_nil, Nat.reduceAdd, Bool.and_self, Bool.and_true, and_true, true_and, numF] <;> try simp)) (by (simp only [renF, renV, renVL, renO, pickH, pickE, posOf, setn, List.nil_append, List.cons_append, leF, leH_nil, leH_cons, leF_nil, lk, scp, scpL, scpO, resF, resH, resO, resV, resVL, nth, Nat.reduceBEq, Nat.reduceLT, decide_true, decide_false, List.length, List.length_cons, List.length_nil, Nat.reduceAdd, Bool.and_self, Bool.and_true, and_true, true_and, numF] <;> try simp); exact ⟨rfl, rfl⟩)
   case round2 =>
    rintro ⟨i, s⟩ ⟨hi1, hi2, hs, hs2⟩ I2 again2
    have hi1 : m ≤ i := hi1
    have hi2 : i ≤ to := hi2
    have hs : stOk s := hs
    have hs2 : i < to → s = stA l (bgL l) i := hs2
    (refine Y_go 600 ?_; dsimp only [zq9y, t61n23, T61n23, zq9r, zq9q, Y_k, zq4u, zq8o, zq6n, Nat.reduceBEq, zq6l, zq6k, YK, zq8t, zq58, zq06, zq0y, nth, zq09, zq08, zq0v, zq5a, zq15, zq13, zq5c, zq1q, zq1n, zq1c, List.nil_append, zq1b, zq18, zq50, zq04, zq92, zq9b, zq0i, zq9e, zq9i, normF, zq6m, zq86, zq87, zq8c, zq8f, zq9s, zq6h, zq8x, YC, zq9p, t61n22, T61n22, zq9t, zq0w, zq1p, List.cons_append, zq17, zq5e, List.length_cons, List.length_nil, Nat.reduceAdd, List.map, zq6q, zq5d, zq7t, zq8l, zq73, zq8m, zq8k, zq0a, zq1x, zq1t, dropL, takeL, zq1r, splice, setn, zq8s, zq89, t61n20, T61n20, zq1o, zq1k, zq19, zq9j, zq9u, popTo, zq6i, YP, zqa1, t61n26, T61n26, zq4w, zq8p, zq0e, zq8a, zqa2])
    rw [hk1']
    refine ⟨⟨by omega, by omega⟩, _, q1, fun hlt2 => ?_, fun hge2 => ?_⟩
    ·have hlt2 : i < to := by have := of_decide_eq_true hlt2; omega
     have hil : i < l.length := by omega
     have hx' : l[i]? = some l[i] := List.getElem?_eq_getElem hil
     have hi1' : ((i : Nat) : Int).toNat = i := by omega
     have cl : ∀ k v, k < 5 → (l[i]).cells[k]? = some v → CellAt ⟨w, w.heap.size, [], 149, []⟩ B (i * 5 + k) v := fun k v hk hv => (hB.toE (by simp) 149 []).cell (by rw [cellsI_get l hil hk]; exact hv)
     have sB := someI hB hil
     generalize l[i] = x at cl hx'
     rw [hi1']
     refine ⟨⟨by omega, by omega, sB⟩, _, cl 0 _ (by omega) rfl, _, cl 1 _ (by omega) rfl, _, cl 2 _ (by omega) rfl, _, cl 3 _ (by omega) rfl, _, cl 4 _ (by omega) rfl, fun g => ?_⟩
     have fin : ∀ (s' : List (Option Int)) (z : List In), (foldI x s i).2 = s' → fdT l (i + 1) = z → ∀ (st : SS) (K : List KI), LE ⟨w, w.heap.size, [], 149, []⟩ st ⟨w, w.heap.size, [], 149, []⟩ { F := [(0, .val (.slice B l.length bc)), (3, .own 0 0), (4, .own 1 0), (5, .val (.int .i64 (k : Int))), (6, .ptr 2 0), (7, .ptr 3 0), (8, .val (.int .i64 ((i + 1 : Nat) : Int)))], H := [.own 41 0 5 oA l.length oC (cellsI z), .own 35 0 3 A ps.length c (cellsR ps), .row g6 50 (rgV s'), .row g7 135 (knB s')] } → G (cxOf Tryz.prog Tryz.f61 K61 T61 R) ⟨w, w.heap.size, [], 149, []⟩ (.lend I2 :: K) st := by
      intro s' z h1 h2 st K hle
      subst h1; subst h2
      refine lend_rule fun a W rep => again2 (i + 1, (foldI x s i).2) ⟨by show m ≤ i + 1; omega, by show i + 1 ≤ to; omega, foldI_ok hs, fun h => ?_⟩ (by show to - (i + 1) < to - i; omega) a W (hle a W rep)
      have h : i + 1 < to := h
      show (foldI x s i).2 = stA l (bgL l) (i + 1)
      rw [stA_mid hx' (part_mid hx (by omega) (by rw [hto]; omega)), ← hs2 hlt2]
     have hfa : foldA l i x = (foldI x s i).1 := by unfold foldA; rw [← hs2 hlt2]
     have same : (foldI x s i).1 = x → fdT l (i + 1) = fdT l i := fun h => fdT_same hx' (by rw [hfa, h])
     have put : ∀ y, (foldI x s i).1 = y → fdT l (i + 1) = (fdT l i).set i y := fun y h => by rw [← h, ← hfa, fdT_step hx']
     refine call_val (vs := [In.val x]) rfl (fun W hW => legal90 x W) fun v hv => ⟨bsv (legalB x), by rw [hv]; cases legalB x <;> simp [bsv, Is], ?_⟩
     cases hb : legalB x with
     | false =>
      have hf0 : foldI x s i = (x, s) := by unfold foldI; rw [hb]; rfl
      simp only [bsv]
      (refine Y_go 600 ?_; dsimp only [zq8t, Y_k, zq4u, zq8o, zq6n, Nat.reduceBEq, zq6k, YK, zq9i, normF, zq6l, zq6m, zq86, zq89, zq8a, zq8c, zq87, zq8f, zq9y, t61n19, T61n19, zq9r, zq9q, zq53, zq0n, zq9s, zq6f, YC, zq9u, popTo, zq6i, YP, t61n21, T61n21, zq4w, zq8p, zq6q, zq04, zq92, zq9b, zq0e, zqa2])
      exact ⟨((i + 1 : Nat) : Int), ArOk.to (by omega) (by omega) (by omega), fin s _ (by rw [hf0]) (same (by rw [hf0])) _ _ fun a W rep => rep.le (by (simp only [setn, List.nil_append, List.cons_append, leF, leH_nil, leH_cons, leF_nil, lk, scp, scpL, scpO, resF, resH, resO, resV, resVL, nth, Nat.reduceBEq, Nat.reduceLT, decide_true, decide_false, List.length, List.length_cons, List.length_nil, Nat.reduceAdd, Bool.and_self, Bool.and_true, and_true, true_and, numF] <;> try simp)) (by (simp only [setn, List.nil_append, List.cons_append, leF, leH_nil, leH_cons, leF_nil, lk, scp, scpL, scpO, resF, resH, resO, resV, resVL, nth, Nat.reduceBEq, Nat.reduceLT, decide_true, decide_false, List.length, List.length_cons, List.length_nil, Nat.reduceAdd, Bool.and_self, Bool.and_true, and_true, true_and, numF] <;> try simp))⟩
     | true =>
      simp only [bsv]
      (refine Y_go 600 ?_; dsimp only [zq8t, Y_k, zq4u, zq8o, zq6n, Nat.reduceBEq, zq6k, YK, zq9i, normF, zq6l, zq6m, zq86, zq89, zq8c, zq87, zq8f, zq9y, t61n19, T61n19, zq9r, zq9q, zq53, zq0m, zq8a, zq9s, zq6g, YC, zq9p, t61n18, T61n18, zq8p, zq6o, t61n17, T61n17, zq5c, zq1o, nth, zq1k, List.length_cons, List.length_nil, Nat.reduceAdd, dropL, takeL, zq19, zq17, zq9j])
      refine call_rule (vs := [In.val x]) rfl (R := fun W v W' => ∃ (rA : Option Addr) (rc : Nat), v = .slice rA (readsL x).length rc ∧ World.ownsB W' W.heap.size 3 1 (.slice rA (readsL x).length rc) (readsL x).length ((readsL x).map (Value.int .i64)) ∧ Fresh W W') (fun W hW => reads91 x W) fun W v W' hW ⟨rA, rc, hv, j2, j4⟩ => ?_
      obtain ⟨rB, rc2, e, jx, jh, ji⟩ := hW.gain j2 j4
      subst hv
      refine ⟨_, _, ji, jx, jh, ?_⟩
      clear jx jh ji j2 j4 e hW
      (refine Y_go 600 ?_; dsimp only [List.length_cons, List.length_nil, Nat.reduceAdd, zq8t, List.cons_append, List.nil_append, Y_k, zq4u, zq8o, zq6n, Nat.reduceBEq, zq6k, YK, zq9i, normF, zq6l, zq6m, zq86, zq8a, zq89, zq8f, zq8c, zq87, zq9y, t61n16, T61n16, zq9r, zq9q, zq8p, zq6q, zq9t, zq9v])
      obtain ⟨r0, r1, r2, r3, r4, r5, r6, r7, hr⟩ : ∃ r0 r1 r2 r3 r4 r5 r6 r7, rgO s = [r0, r1, r2, r3, r4, r5, r6, r7] := by
       have h8 := rgO_len hs.1
       match rgO s, h8 with
       | [r0, r1, r2, r3, r4, r5, r6, r7], _ => exact ⟨r0, r1, r2, r3, r4, r5, r6, r7, rfl⟩
      have hrg : rgV s = [.int .u64 r0, .int .u64 r1, .int .u64 r2, .int .u64 r3, .int .u64 r4, .int .u64 r5, .int .u64 r6, .int .u64 r7] := by unfold rgV; rw [hr]; rfl
      have hrl : (readsL x).length ≤ 2 := by unfold readsL; split; · exact Nat.le_succ 1
                                             split; · exact Nat.le_refl 2
                                             split; · exact Nat.le_refl 2
                                             exact Nat.zero_le 2
      have after : ∀ q, q = (readsL x).all (knO s) → G (cxOf Tryz.prog Tryz.f61 K61 T61 R) ⟨w, w.heap.size, [], 149, []⟩ [.ops [⟨some 69, none, .call 92 [.tmp 66, .tmp 67, .tmp 68]⟩, ⟨some 14, none, .k (.alloc 54 [.int .i64 0, .int .i64 0, .int .i64 0, .int .u64 0, .int .u64 0])⟩, ⟨none, none, .k (.store 5 (.tmp 14) (.tmp 69))⟩], .code (.ref 14), .blk 3, .code (.ref 21), .lend I2, .blk 2, .blk 1, .code (.ref 26), .lend I, .blk 0, .code (.ref 29)]
        { F := [(68, .val (.int .i64 (i : Int))), (67, .agg [.val (.int .u64 r0), .val (.int .u64 r1), .val (.int .u64 r2), .val (.int .u64 r3), .val (.int .u64 r4), .val (.int .u64 r5), .val (.int .u64 r6), .val (.int .u64 r7)]), (66, .agg [.val (.int .i64 x.op), .val (.int .i64 x.a), .val (.int .i64 x.b), .val (.int .i64 x.c), .val (.int .i64 x.imm)]), (0, .val (.slice B l.length bc)), (3, .own 0 0), (4, .own 1 0), (5, .val (.int .i64 (k : Int))), (6, .ptr 2 0), (7, .ptr 3 0), (8, .val (.int .i64 (i : Int))), (9, .ptr 4 0), (11, bsv q)], H := [.own 41 0 5 oA l.length oC (cellsI (fdT l i)), .own 35 0 3 A ps.length c (cellsR ps), .row g6 50 (rgV s), .row g7 135 (knB s), .cells g 41 [.val (.int .i64 x.op), .val (.int .i64 x.a), .val (.int .i64 x.b), .val (.int .i64 x.c), .val (.int .i64 x.imm)]] } := by
       intro q hq
       refine call_val (vs := [In.val x, .agg ((rgO s).map uV).toArray, .int .i64 (i : Int)]) (R := fun v => v = Ef.val (doB x (rgO s) i)) (by rw [hr]; rfl) (fun W hW => do92 x (rgO s) i W (rgO_len hs.1) (rgO_U hs)) fun v hv => ⟨Ef.sv (doB x (rgO s) i), by rw [hv]; exact Ef.is _ _, ?_⟩
       have hvU : 2 ≤ x.op ∧ x.op ≤ 10 → isU (doB x (rgO s) i).value := fun h => do_isU (rgO_U hs) h
       obtain ⟨e, he⟩ : ∃ e, doB x (rgO s) i = e := ⟨_, rfl⟩
       rw [he] at hvU ⊢
       have hA1 : 0 + x.a.toNat * 1 = x.a.toNat := by omega
       have ha := (legal_regs hb).1
       have f11 : (x.op == 11) = true → 0 ≤ x.a ∧ x.a < ((8 : Nat) : Int) := fun h => by
        have h : x.op = 11 := by simpa using h
        have := ha (.inl ⟨by omega, by omega⟩)
        omega
       have fmid : decide (x.op ≥ 2) = true → decide (x.op ≤ 10) = true → 0 ≤ x.a ∧ x.a < ((8 : Nat) : Int) := fun h h2 => by
        have h := of_decide_eq_true h
        have h2 := of_decide_eq_true h2
        have := ha (.inl ⟨by omega, by omega⟩)
        omega
       have hsp : ∀ op a b c imm : Int, setn (setn (setn (setn (setn (cellsI (fdT l i)) (i * 5) (Value.int .i64 op)) (i * 5 + 1) (Value.int .i64 a)) (i * 5 + 1 + 1) (Value.int .i64 b)) (i * 5 + 1 + 1 + 1) (Value.int .i64 c)) (i * 5 + 1 + 1 + 1 + 1) (Value.int .i64 imm) = cellsI ((fdT l i).set i ⟨op, a, b, c, imm⟩) := fun op a b c imm => cellsI_put (l := fdT l i) (i := i) (x := ⟨op, a, b, c, imm⟩) (by rw [fdT_len]; exact hil)
       unfold Ef.sv
       cases q <;> simp only [bsv]
       all_goals (refine Y_go 600 ?_; dsimp only [zq8t, Y_k, zq5e, List.length_cons, List.length_nil, Nat.reduceAdd, List.map, zq6q, List.cons_append, List.nil_append, YK, zq5d, zq8o, zq6n, Nat.reduceBEq, zq6k, zq6l, zq7t, zq8l, zq73, zq8m, zq8k, zq0a, zq1x, nth, zq1t, dropL, takeL, zq1r, splice, setn, zq8s, zq9i, normF, zq6m, zq86, zq8c, zq8a, zq87, zq8f, zq9y, t61n14, T61n14, zq9r, zq9q, zq5c, zq1o, zq1k, zq19, zq17, zq9j, zq89])
       all_goals intro g14
       all_goals refine call_val (vs := [In.val x]) rfl (fun W hW => goes93 x W) fun v hv => ⟨.val (.int .i64 (goK x)), by rw [hv]; simp [Is], ?_⟩
       all_goals (refine Y_go 600 ?_; dsimp only [zq8t, Y_k, zq4u, zq8o, zq6n, Nat.reduceBEq, zq6k, YK, zq9i, normF, zq6l, zq6m, zq86, zq87, zq8c, zq8a, zq8f, zq9y, t61n13, T61n13, zq9t, zq9r, zq9q, zq50, zq8p, zq6q, zq04, zq92, zq9b, zq0i, zq9c, Y_gk, zq6d, YR, zq4v, zq6p, zq0b, zq9s, zq6g, YC, t61n12, T61n12, zq5a, zq14, Nat.add_zero, zq5c, zq1o, nth, zq1k, List.length_cons, List.length_nil, Nat.reduceAdd, dropL, takeL, zq19, zq18, zq6e, YS, zq6a, zq02, zq6o, zq89, zq6f, t61n5, T61n5, zq59, zq06, zq10, zq5d, zq7w, zq7i, zq0a, zq1x, zq1u, denL, den, zq1s, splice, setn, zq8s, t61n4, T61n4, zq7u, zq73, zqa1, t61n21, T61n21, zq4w, zq0e, zqa2, zq6c, zq9h, zq69, zq9f, zq53, zq0n, zq0c, zq6b, t61n11, T61n11, zq6h, zq8x, t61n10, T61n10, zq7v, zq7h, t61n9, T61n9, t61n8, T61n8, zq96, t61n7, T61n7, zq9d, t61n6, T61n6, zq54, zq0p, zq5g, List.map, zq21, zq20, zq22, zq25, zq58, zq0y, zq09, zq08, zq0v, zq7t, zq8l, zq8m, zq8k, zq1y, zq1w, zq1v, zq9p, t61n3, T61n3, zq0m])
       all_goals rw [hA1, hi1']
       all_goals repeat' (first | refine And.intro ?_ ?_ | intro h)
       all_goals first | done | exact absurd ‹decide (x.op ≤ 10) = true› (by rw [‹decide (x.op ≤ 10) = false›]; decide) | exact absurd ‹decide (x.op ≥ 2) = true› (by rw [‹decide (x.op ≥ 2) = false›]; decide) | skip
       all_goals first | done | exact (f11 ‹_›).1 | exact (f11 ‹_›).2 | exact (fmid ‹_› ‹_›).1 | exact (fmid ‹_› ‹_›).2 | (rw [knB_len, hs.1]; have := (f11 ‹_›); omega) | (rw [knB_len, hs.1]; have := (fmid ‹_› ‹_›); omega) | (rw [rgV_len, hs.1]; have := (f11 ‹_›); omega) | (rw [rgV_len, hs.1]; have := (fmid ‹_› ‹_›); omega) | skip
       all_goals first | done | exact absurd (fd_br (x := x) ‹_›).1 (by have := of_decide_eq_true ‹decide (x.op ≤ 10) = true›; omega) | exact absurd (fd_br (x := x) ‹_›).1 (fd_no11 ‹_›) | skip
       all_goals first | done | omega | (rw [cellsI_len, fdT_len]; omega) | (have E := fd_nopA (i := i) hb ‹_› ‹_›; exact ⟨((i + 1 : Nat) : Int), ArOk.to (by omega) (by omega) (by omega), fin s _ (by rw [E]) (same (by rw [E])) _ _ fun a W rep => rep.le (by (simp only [setn, List.nil_append, List.cons_append, leF, leH_nil, leH_cons, leF_nil, lk, scp, scpL, scpO, resF, resH, resO, resV, resVL, nth, Nat.reduceBEq, Nat.reduceLT, decide_true, decide_false, List.length, List.length_cons, List.length_nil, Nat.reduceAdd, Bool.and_self, Bool.and_true, and_true, true_and, numF] <;> try simp)) (by (simp only [setn, List.nil_append, List.cons_append, leF, leH_nil, leH_cons, leF_nil, lk, scp, scpL, scpO, resF, resH, resO, resV, resVL, nth, Nat.reduceBEq, Nat.reduceLT, decide_true, decide_false, List.length, List.length_cons, List.length_nil, Nat.reduceAdd, Bool.and_self, Bool.and_true, and_true, true_and, numF] <;> try simp))⟩) | (have E := fd_jmp (i := i) hb ‹_› ‹_›; rw [he] at E; exact ⟨((i + 1 : Nat) : Int), ArOk.to (by omega) (by omega) (by omega), fin s _ (by rw [E]) (put _ (by rw [E])) _ _ fun a W rep => rep.le (by (simp only [setn, List.nil_append, List.cons_append, leF, leH_nil, leH_cons, leF_nil, lk, scp, scpL, scpO, resF, resH, resO, resV, resVL, nth, Nat.reduceBEq, Nat.reduceLT, decide_true, decide_false, List.length, List.length_cons, List.length_nil, Nat.reduceAdd, Bool.and_self, Bool.and_true, and_true, true_and, numF] <;> try simp)) (by rw [hsp]; (simp only [setn, List.nil_append, List.cons_append, leF, leH_nil, leH_cons, leF_nil, lk, scp, scpL, scpO, resF, resH, resO, resV, resVL, nth, Nat.reduceBEq, Nat.reduceLT, decide_true, decide_false, List.length, List.length_cons, List.length_nil, Nat.reduceAdd, Bool.and_self, Bool.and_true, and_true, true_and, numF] <;> try simp))⟩) | (have E := fd_nop (s := s) (i := i) hb ‹_› ‹_› (.inl (by have := of_decide_eq_false ‹decide (x.op ≥ 2) = false›; omega)); exact ⟨((i + 1 : Nat) : Int), ArOk.to (by omega) (by omega) (by omega), fin s _ (by rw [E]) (same (by rw [E])) _ _ fun a W rep => rep.le (by (simp only [setn, List.nil_append, List.cons_append, leF, leH_nil, leH_cons, leF_nil, lk, scp, scpL, scpO, resF, resH, resO, resV, resVL, nth, Nat.reduceBEq, Nat.reduceLT, decide_true, decide_false, List.length, List.length_cons, List.length_nil, Nat.reduceAdd, Bool.and_self, Bool.and_true, and_true, true_and, numF] <;> try simp)) (by (simp only [setn, List.nil_append, List.cons_append, leF, leH_nil, leH_cons, leF_nil, lk, scp, scpL, scpO, resF, resH, resO, resV, resVL, nth, Nat.reduceBEq, Nat.reduceLT, decide_true, decide_false, List.length, List.length_cons, List.length_nil, Nat.reduceAdd, Bool.and_self, Bool.and_true, and_true, true_and, numF] <;> try simp))⟩) | (have E := fd_nop (s := s) (i := i) hb ‹_› ‹_› (.inr (by have := of_decide_eq_false ‹decide (x.op ≤ 10) = false›; omega)); exact ⟨((i + 1 : Nat) : Int), ArOk.to (by omega) (by omega) (by omega), fin s _ (by rw [E]) (same (by rw [E])) _ _ fun a W rep => rep.le (by (simp only [setn, List.nil_append, List.cons_append, leF, leH_nil, leH_cons, leF_nil, lk, scp, scpL, scpO, resF, resH, resO, resV, resVL, nth, Nat.reduceBEq, Nat.reduceLT, decide_true, decide_false, List.length, List.length_cons, List.length_nil, Nat.reduceAdd, Bool.and_self, Bool.and_true, and_true, true_and, numF] <;> try simp)) (by (simp only [setn, List.nil_append, List.cons_append, leF, leH_nil, leH_cons, leF_nil, lk, scp, scpL, scpO, resF, resH, resO, resV, resVL, nth, Nat.reduceBEq, Nat.reduceLT, decide_true, decide_false, List.length, List.length_cons, List.length_nil, Nat.reduceAdd, Bool.and_self, Bool.and_true, and_true, true_and, numF] <;> try simp))⟩) | (have E := fd_11 (s := s) (i := i) hb ‹_›; exact ⟨((i + 1 : Nat) : Int), ArOk.to (by omega) (by omega) (by omega), fin (s.set x.a.toNat none) _ (by rw [E]) (same (by rw [E])) _ _ fun a W rep => rep.le (by (simp only [setn, List.nil_append, List.cons_append, leF, leH_nil, leH_cons, leF_nil, lk, scp, scpL, scpO, resF, resH, resO, resV, resVL, nth, Nat.reduceBEq, Nat.reduceLT, decide_true, decide_false, List.length, List.length_cons, List.length_nil, Nat.reduceAdd, Bool.and_self, Bool.and_true, and_true, true_and, numF] <;> try simp)) (by rw [knB_set (b := false) (o := none) rfl, rgV_set (v := 0) (o := none) rfl]; (simp only [setn, List.nil_append, List.cons_append, leF, leH_nil, leH_cons, leF_nil, lk, scp, scpL, scpO, resF, resH, resO, resV, resVL, nth, Nat.reduceBEq, Nat.reduceLT, decide_true, decide_false, List.length, List.length_cons, List.length_nil, Nat.reduceAdd, Bool.and_self, Bool.and_true, and_true, true_and, numF] <;> try simp))⟩) | (have E := fd_0 (i := i) hb ‹_› ‹_› ‹_›; exact ⟨((i + 1 : Nat) : Int), ArOk.to (by omega) (by omega) (by omega), fin (s.set x.a.toNat none) _ (by rw [E]) (same (by rw [E])) _ _ fun a W rep => rep.le (by (simp only [setn, List.nil_append, List.cons_append, leF, leH_nil, leH_cons, leF_nil, lk, scp, scpL, scpO, resF, resH, resO, resV, resVL, nth, Nat.reduceBEq, Nat.reduceLT, decide_true, decide_false, List.length, List.length_cons, List.length_nil, Nat.reduceAdd, Bool.and_self, Bool.and_true, and_true, true_and, numF] <;> try simp)) (by rw [knB_set (b := false) (o := none) rfl, rgV_set (v := 0) (o := none) rfl]; (simp only [setn, List.nil_append, List.cons_append, leF, leH_nil, leH_cons, leF_nil, lk, scp, scpL, scpO, resF, resH, resO, resV, resVL, nth, Nat.reduceBEq, Nat.reduceLT, decide_true, decide_false, List.length, List.length_cons, List.length_nil, Nat.reduceAdd, Bool.and_self, Bool.and_true, and_true, true_and, numF] <;> try simp))⟩) | (have E := fd_w (i := i) hb ‹_› ‹_› ‹_› ‹_› (by rw [he]; exact sm_lo ‹_›); rw [he] at E; exact ⟨sgnU e.value, conv_sgn (hvU ⟨of_decide_eq_true ‹decide (x.op ≥ 2) = true›, of_decide_eq_true ‹decide (x.op ≤ 10) = true›⟩), ⟨by omega, by omega⟩, by rw [cellsI_len, fdT_len]; omega, ((i + 1 : Nat) : Int), ArOk.to (by omega) (by omega) (by omega), fin (s.set x.a.toNat (some e.value)) _ (by rw [E]) (put _ (by rw [E])) _ _ fun a W rep => rep.le (by (simp only [setn, List.nil_append, List.cons_append, leF, leH_nil, leH_cons, leF_nil, lk, scp, scpL, scpO, resF, resH, resO, resV, resVL, nth, Nat.reduceBEq, Nat.reduceLT, decide_true, decide_false, List.length, List.length_cons, List.length_nil, Nat.reduceAdd, Bool.and_self, Bool.and_true, and_true, true_and, numF] <;> try simp)) (by rw [knB_set (b := true) (o := some e.value) rfl, rgV_set (v := e.value) (o := some e.value) rfl, hsp]; (simp only [setn, List.nil_append, List.cons_append, leF, leH_nil, leH_cons, leF_nil, lk, scp, scpL, scpO, resF, resH, resO, resV, resVL, nth, Nat.reduceBEq, Nat.reduceLT, decide_true, decide_false, List.length, List.length_cons, List.length_nil, Nat.reduceAdd, Bool.and_self, Bool.and_true, and_true, true_and, numF] <;> try simp))⟩) | (have E := fd_w (i := i) hb ‹_› ‹_› ‹_› ‹_› (by rw [he]; exact sm_hi ‹_›); rw [he] at E; exact ⟨sgnU e.value, conv_sgn (hvU ⟨of_decide_eq_true ‹decide (x.op ≥ 2) = true›, of_decide_eq_true ‹decide (x.op ≤ 10) = true›⟩), ⟨by omega, by omega⟩, by rw [cellsI_len, fdT_len]; omega, ((i + 1 : Nat) : Int), ArOk.to (by omega) (by omega) (by omega), fin (s.set x.a.toNat (some e.value)) _ (by rw [E]) (put _ (by rw [E])) _ _ fun a W rep => rep.le (by (simp only [setn, List.nil_append, List.cons_append, leF, leH_nil, leH_cons, leF_nil, lk, scp, scpL, scpO, resF, resH, resO, resV, resVL, nth, Nat.reduceBEq, Nat.reduceLT, decide_true, decide_false, List.length, List.length_cons, List.length_nil, Nat.reduceAdd, Bool.and_self, Bool.and_true, and_true, true_and, numF] <;> try simp)) (by rw [knB_set (b := true) (o := some e.value) rfl, rgV_set (v := e.value) (o := some e.value) rfl, hsp]; (simp only [setn, List.nil_append, List.cons_append, leF, leH_nil, leH_cons, leF_nil, lk, scp, scpL, scpO, resF, resH, resO, resV, resVL, nth, Nat.reduceBEq, Nat.reduceLT, decide_true, decide_false, List.length, List.length_cons, List.length_nil, Nat.reduceAdd, Bool.and_self, Bool.and_true, and_true, true_and, numF] <;> try simp))⟩) | (have E := fd_1 (i := i) hb ‹_› ‹_› ‹_› (.inl ‹_›); rw [he] at E; exact ⟨((i + 1 : Nat) : Int), ArOk.to (by omega) (by omega) (by omega), fin (s.set x.a.toNat (some e.value)) _ (by rw [E]) (same (by rw [E])) _ _ fun a W rep => rep.le (by (simp only [setn, List.nil_append, List.cons_append, leF, leH_nil, leH_cons, leF_nil, lk, scp, scpL, scpO, resF, resH, resO, resV, resVL, nth, Nat.reduceBEq, Nat.reduceLT, decide_true, decide_false, List.length, List.length_cons, List.length_nil, Nat.reduceAdd, Bool.and_self, Bool.and_true, and_true, true_and, numF] <;> try simp)) (by rw [knB_set (b := true) (o := some e.value) rfl, rgV_set (v := e.value) (o := some e.value) rfl]; (simp only [setn, List.nil_append, List.cons_append, leF, leH_nil, leH_cons, leF_nil, lk, scp, scpL, scpO, resF, resH, resO, resV, resVL, nth, Nat.reduceBEq, Nat.reduceLT, decide_true, decide_false, List.length, List.length_cons, List.length_nil, Nat.reduceAdd, Bool.and_self, Bool.and_true, and_true, true_and, numF] <;> try simp))⟩) | (have E := fd_1 (i := i) hb ‹_› ‹_› ‹_› (.inr (by rw [he]; exact sm_no ‹_› ‹_›)); rw [he] at E; exact ⟨((i + 1 : Nat) : Int), ArOk.to (by omega) (by omega) (by omega), fin (s.set x.a.toNat (some e.value)) _ (by rw [E]) (same (by rw [E])) _ _ fun a W rep => rep.le (by (simp only [setn, List.nil_append, List.cons_append, leF, leH_nil, leH_cons, leF_nil, lk, scp, scpL, scpO, resF, resH, resO, resV, resVL, nth, Nat.reduceBEq, Nat.reduceLT, decide_true, decide_false, List.length, List.length_cons, List.length_nil, Nat.reduceAdd, Bool.and_self, Bool.and_true, and_true, true_and, numF] <;> try simp)) (by rw [knB_set (b := true) (o := some e.value) rfl, rgV_set (v := e.value) (o := some e.value) rfl]; (simp only [setn, List.nil_append, List.cons_append, leF, leH_nil, leH_cons, leF_nil, lk, scp, scpL, scpO, resF, resH, resO, resV, resVL, nth, Nat.reduceBEq, Nat.reduceLT, decide_true, decide_false, List.length, List.length_cons, List.length_nil, Nat.reduceAdd, Bool.and_self, Bool.and_true, and_true, true_and, numF] <;> try simp))⟩) | skip
      refine loop_go (α := Nat) (fun j => j ≤ (readsL x).length) (fun _ => ⟨w, w.heap.size, [], 149, []⟩) (fun j => { F := [(0, .val (.slice B l.length bc)), (3, .own 0 0), (4, .own 1 0), (5, .val (.int .i64 (k : Int))), (6, .ptr 2 0), (7, .ptr 3 0), (8, .val (.int .i64 (i : Int))), (9, .ptr 4 0), (11, bsv (((readsL x).take j).all (knO s))), (12, .own 5 0), (13, .val (.int .i64 (j : Int)))], H := [.own 41 0 5 oA l.length oC (cellsI (fdT l i)), .own 35 0 3 A ps.length c (cellsR ps), .row g6 50 (rgV s), .row g7 135 (knB s), .cells g 41 [.val (.int .i64 x.op), .val (.int .i64 x.a), .val (.int .i64 x.b), .val (.int .i64 x.c), .val (.int .i64 x.imm)], .own 3 0 1 rB (readsL x).length rc2 ((readsL x).map (Value.int .i64))] }) (fun j => (readsL x).length - j) (fun _ => rfl) ?start3 ?round3
      case start3 =>
       intro a W rep
       exact ⟨0, Nat.zero_le _, rep.le (by rw [List.take_zero, List.all_nil]; simp only [bsv]; (simp only [setn, List.nil_append, List.cons_append, leF, leH_nil, leH_cons, leF_nil, lk, scp, scpL, scpO, resF, resH, resO, resV, resVL, nth, Nat.reduceBEq, Nat.reduceLT, decide_true, decide_false, List.length, List.length_cons, List.length_nil, Nat.reduceAdd, Bool.and_self, Bool.and_true, and_true, true_and, numF] <;> try simp)) (by (simp only [renF, renV, renVL, renO, pickH, pickE, posOf, setn, List.nil_append, List.cons_append, leF, leH_nil, leH_cons, leF_nil, lk, scp, scpL, scpO, resF, resH, resO, resV, resVL, nth, Nat.reduceBEq, Nat.reduceLT, decide_true, decide_false, List.length, List.length_cons, List.length_nil, Nat.reduceAdd, Bool.and_self, Bool.and_true, and_true, true_and, numF] <;> try simp))⟩
      case round3 =>
       intro j hj I3 again3
       have hj : j ≤ (readsL x).length := hj
       generalize hq : ((readsL x).take j).all (knO s) = q
       cases q <;> simp only [bsv]
       all_goals (refine Y_go 600 ?_; dsimp only [zq9y, t61n2, T61n2, zq9r, zq9q, Y_k, zq4u, zq8o, zq6n, Nat.reduceBEq, zq6l, zq6k, YK, zq8t, zq55, zq0t, nth, zq09, zq08, zq0q, zq50, zq04, zq92, zq9b, zq0i, zq9e, zq9i, normF, zq6m, zq86, zq87, zq8f, zq8a, zq8c, zq9s, zq6h, zq8x, YC, zq9p, t61n1, T61n1, zq9t, Y_gk, zq6b, YS, zq4v, zq8p, zq6p, zq0c, zq89, zqa1, t61n0, T61n0, zq4w, zq6q, zq0e, zqa2, zq9u, popTo, zq6i, YP, t61n15, T61n15, zq5c, zq1o, zq1k, List.length_cons, List.length_nil, Nat.reduceAdd, dropL, takeL, zq19, zq17, zq1l, zq1c, List.nil_append, List.cons_append, zq1b, zq9j, zq69, YR, zq58, zq06, zq0y, zq0v, zq1q, zq1n, zq18, zq59, zq10, zq1d, zq0b])
       ·refine ⟨fun hlt3 => ⟨((j + 1 : Nat) : Int), ArOk.to (by omega) (by omega) (by omega), lend_rule fun a W rep => again3 (j + 1) (by have := of_decide_eq_true hlt3; omega) (by have := of_decide_eq_true hlt3; omega) a W (rep.le ?_ ?_)⟩, fun hge3 => ⟨r0, by rw [hrg]; rfl, r1, by rw [hrg]; rfl, r2, by rw [hrg]; rfl, r3, by rw [hrg]; rfl, r4, by rw [hrg]; rfl, r5, by rw [hrg]; rfl, r6, by rw [hrg]; rfl, r7, by rw [hrg]; rfl, fun a W rep => after false ?_ a W (rep.le ?_ ?_)⟩⟩
        ·have hlt3 := of_decide_eq_true hlt3
         rw [List.take_add_one, List.all_append, hq, Bool.false_and]
         simp only [bsv]; (simp only [setn, List.nil_append, List.cons_append, leF, leH_nil, leH_cons, leF_nil, lk, scp, scpL, scpO, resF, resH, resO, resV, resVL, nth, Nat.reduceBEq, Nat.reduceLT, decide_true, decide_false, List.length, List.length_cons, List.length_nil, Nat.reduceAdd, Bool.and_self, Bool.and_true, and_true, true_and, numF] <;> try simp)
        ·(simp only [setn, List.nil_append, List.cons_append, leF, leH_nil, leH_cons, leF_nil, lk, scp, scpL, scpO, resF, resH, resO, resV, resVL, nth, Nat.reduceBEq, Nat.reduceLT, decide_true, decide_false, List.length, List.length_cons, List.length_nil, Nat.reduceAdd, Bool.and_self, Bool.and_true, and_true, true_and, numF] <;> try simp)
        ·have hge3 := of_decide_eq_false hge3
         rw [List.take_of_length_le (by omega)] at hq; exact hq.symm
        ·simp only [bsv]; (simp only [setn, List.nil_append, List.cons_append, leF, leH_nil, leH_cons, leF_nil, lk, scp, scpL, scpO, resF, resH, resO, resV, resVL, nth, Nat.reduceBEq, Nat.reduceLT, decide_true, decide_false, List.length, List.length_cons, List.length_nil, Nat.reduceAdd, Bool.and_self, Bool.and_true, and_true, true_and, numF] <;> try simp)
        ·(simp only [setn, List.nil_append, List.cons_append, leF, leH_nil, leH_cons, leF_nil, lk, scp, scpL, scpO, resF, resH, resO, resV, resVL, nth, Nat.reduceBEq, Nat.reduceLT, decide_true, decide_false, List.length, List.length_cons, List.length_nil, Nat.reduceAdd, Bool.and_self, Bool.and_true, and_true, true_and, numF] <;> try simp)
       ·refine ⟨fun hlt3 => ?_, fun hge3 => ⟨r0, by rw [hrg]; rfl, r1, by rw [hrg]; rfl, r2, by rw [hrg]; rfl, r3, by rw [hrg]; rfl, r4, by rw [hrg]; rfl, r5, by rw [hrg]; rfl, r6, by rw [hrg]; rfl, r7, by rw [hrg]; rfl, fun a W rep => after true ?_ a W (rep.le ?_ ?_)⟩⟩
        ·have hlt3 : j < (readsL x).length := by have := of_decide_eq_true hlt3; omega
         have hj1 : ((j : Nat) : Int).toNat = j := by omega
         obtain ⟨n, hn⟩ : ∃ n, (readsL x)[j]? = some n := ⟨_, List.getElem?_eq_getElem hlt3⟩
         have hnr := reads_range hb (List.mem_of_getElem? hn)
         rw [hj1]
         refine ⟨⟨by omega, by omega⟩, n, by rw [List.getElem?_map, Nat.mul_one, hn]; rfl, ⟨hnr.1, by omega⟩, knO s n, knB_get hs.1 hnr.1 hnr.2, ((j + 1 : Nat) : Int), ArOk.to (by omega) (by omega) (by omega), lend_rule fun a W rep => again3 (j + 1) (by omega) (by omega) a W ((rep_bool rep 11 rfl).le ?_ ?_)⟩
         ·rw [List.take_add_one, hn, List.all_append, hq, Bool.true_and]
          simp only [Option.toList_some, List.all_cons, List.all_nil, Bool.and_true]
          cases knO s n <;> (simp only [bsv]; (simp only [setn, List.nil_append, List.cons_append, leF, leH_nil, leH_cons, leF_nil, lk, scp, scpL, scpO, resF, resH, resO, resV, resVL, nth, Nat.reduceBEq, Nat.reduceLT, decide_true, decide_false, List.length, List.length_cons, List.length_nil, Nat.reduceAdd, Bool.and_self, Bool.and_true, and_true, true_and, numF] <;> try simp))
         ·(simp only [setn, List.nil_append, List.cons_append, leF, leH_nil, leH_cons, leF_nil, lk, scp, scpL, scpO, resF, resH, resO, resV, resVL, nth, Nat.reduceBEq, Nat.reduceLT, decide_true, decide_false, List.length, List.length_cons, List.length_nil, Nat.reduceAdd, Bool.and_self, Bool.and_true, and_true, true_and, numF] <;> try simp)
        ·have hge3 := of_decide_eq_false hge3
         rw [List.take_of_length_le (by omega)] at hq; exact hq.symm
        ·simp only [bsv]; (simp only [setn, List.nil_append, List.cons_append, leF, leH_nil, leH_cons, leF_nil, lk, scp, scpL, scpO, resF, resH, resO, resV, resVL, nth, Nat.reduceBEq, Nat.reduceLT, decide_true, decide_false, List.length, List.length_cons, List.length_nil, Nat.reduceAdd, Bool.and_self, Bool.and_true, and_true, true_and, numF] <;> try simp)
        ·(simp only [setn, List.nil_append, List.cons_append, leF, leH_nil, leH_cons, leF_nil, lk, scp, scpL, scpO, resF, resH, resO, resV, resVL, nth, Nat.reduceBEq, Nat.reduceLT, decide_true, decide_false, List.length, List.length_cons, List.length_nil, Nat.reduceAdd, Bool.and_self, Bool.and_true, and_true, true_and, numF] <;> try simp)
    ·have hge2 : i = to := by have := of_decide_eq_false hge2; omega
     subst hge2
     refine ⟨((k + 1 : Nat) : Int), ArOk.to (by omega) (by omega) (by omega), lend_rule fun a W rep => again (k + 1, i) ⟨by show k + 1 ≤ _; omega, ?_, by show i ≤ _; omega⟩ (by show ps.length - (k + 1) < ps.length - k; omega) a W (rep.le (by (simp only [renF, renV, renVL, renO, pickH, pickE, posOf, setn, List.nil_append, List.cons_append, leF, leH_nil, leH_cons, leF_nil, lk, scp, scpL, scpO, resF, resH, resO, resV, resVL, nth, Nat.reduceBEq, Nat.reduceLT, decide_true, decide_false, List.length, List.length_cons, List.length_nil, Nat.reduceAdd, Bool.and_self, Bool.and_true, and_true, true_and, numF] <;> try simp)) (by (simp only [renF, renV, renVL, renO, pickH, pickE, posOf, setn, List.nil_append, List.cons_append, leF, leH_nil, leH_cons, leF_nil, lk, scp, scpL, scpO, resF, resH, resO, resV, resVL, nth, Nat.reduceBEq, Nat.reduceLT, decide_true, decide_false, List.length, List.length_cons, List.length_nil, Nat.reduceAdd, Bool.and_self, Bool.and_true, and_true, true_and, numF] <;> try simp)))⟩
     show ((bgL l)[k + 1]?).getD (l.length : Int) = (i : Int)
     rw [← hto]; rfl
  ·have hk2 : k = ps.length := by have := of_decide_eq_false hge; omega
   have hml : m = l.length := by
    subst hk2
    rw [hpl, List.getElem?_eq_none (by omega), Option.getD_none] at hm
    omega
   subst hml
   rw [fdT_all]
   exact ret_rule (vs := [.slice oA l.length oC]) r61 rfl rfl fun W hW => hR _ _ ⟨hW.owns (i := 0) rfl, hW.fresh'⟩
end Go.Proofs.YtlbiogokpadaoaaGreatDoor
namespace Go.Proofs.YtlbiogokpadaoaaGreatDoor
open Go Go.Sx Go.Isa
set_option maxRecDepth 100000
theorem pass27_0 (l : List In) (hl : l.length ≤ 2000) : PassOk 27 [.int .i64 0] l (ansP foldL l) := by
 intro A c w hG hA
 refine calls_go (keep := K27) (nt := 35) (svs := [.val (.int .i64 0), .val (.slice A l.length c)]) Tryz.func27 x27 n27 (by simp) (by simp [IsL, Is]) fun R hR => ?_
 (refine Y_go 600 ?_; dsimp only [X27, numF, Nat.reduceAdd, zq9r, zq9q, Y_k, zq4u, zq8p, zq6u, YK, zq8t, zq6q, zq9i, normF, zq6n, Nat.reduceBEq, zq6l, zq6k, zq6m, zq86, zq87, zq9y, t27n9, T27n9, zq8o, t27n7, T27n7, zq9t, zq50, zq04, zq92, zq9b, zq0i, zq9c, zq9s, zq6h, zq8x, YC, t27n0, T27n0, zq9j, t27n6, T27n6, zq8a, t27n1, T27n1, t27n5, T27n5, t27n2, T27n2, t27n4, T27n4, t27n3, T27n3, zq9p, zqa1, t27n8, T27n8])
 refine ⟨fun _ => ?_, fun h => absurd h (by decide)⟩
 refine passCall rfl (l := l) (A := A) (c := c) (fold55 l hl) rfl (fun W hW => hG.keep hW.fresh') (fun W hW => hA.keep hW.fresh') fun A3 c3 => ?_
 (refine Y_go 600 ?_; dsimp only [List.length_nil, zq8t, List.nil_append, Y_k, zq5j, zq8o, zq6n, Nat.reduceBEq, zq6k, zq2f, nth, zq2e, YK, zq6l, zq4u, zq9i, normF, zq6m, zq86, zq89, zq87, zq8f, zq9x])
 exact ret_rule (vs := [_, _]) r27 rfl rfl fun W hW => hR _ _ ⟨hW.fresh', _, rfl, hW.owns (i := 0) rfl⟩
theorem pass30_0 (l : List In) (hl : l.length ≤ 2000) : PassOk 30 [.int .i64 0] l (ansP foldL l) := by
 intro A c w hG hA
 refine calls_go (keep := K30) (nt := 28) (svs := [.val (.int .i64 0), .val (.slice A l.length c)]) Tryz.func30 x30 n30 (by simp) (by simp [IsL, Is]) fun R hR => ?_
 (refine Y_go 600 ?_; dsimp only [X30, numF, Nat.reduceAdd, zq9r, zq9q, Y_k, zq4u, zq8p, zq6u, YK, zq8t, zq6q, zq9i, normF, zq6n, Nat.reduceBEq, zq6l, zq6k, zq6m, zq86, zq87, zq9y, t30n11, T30n11, zq8o, zq55, zq0r, zq50, zq04, zq92, zq9b, zq0i, zq9g, zq9s, zq6h, zq8x, YC, t30n0, T30n0, zq89, zq9x, zq9p, t30n10, T30n10, zq8a, t30n8, T30n8, zq9t, zq9c, t30n1, T30n1, zq9j, t30n7, T30n7, t30n2, T30n2, t30n6, T30n6, t30n3, T30n3, t30n5, T30n5, t30n4, T30n4, zqa1, t30n9, T30n9])
 refine ⟨fun h => ?_, fun h => ⟨fun _ => ?_, fun h => absurd h (by decide)⟩⟩
 ·have h : 1024 < l.length := by have := of_decide_eq_true h; omega
  exact ret_rule (vs := [.slice none 0 0, .int .i64 2]) r30 rfl rfl fun W hW => hR _ _ ⟨hW.fresh', _, by rw [errP_gt h]; rfl, by rw [ansP_gt h]; exact ownsB_nil _ _ _ _⟩
 ·have h : l.length ≤ 1024 := by have := of_decide_eq_false h; omega
  refine call_own (vs := [.slice A l.length c]) rfl (fun W hW => fold61 l A c W (hA.keep hW.fresh') h) fun A1 c1 => ?_
  (refine Y_go 600 ?_; dsimp only [List.length_nil, zq8t, List.nil_append, Y_k, zq4u, zq8o, zq6n, Nat.reduceBEq, zq6k, YK, zq8p, zq6q, zq9i, normF, zq6l, zq6m, zq86, zq89, zq87, zq8a, zq8f, zq9x])
  exact ret_rule (vs := [_, _]) r30 rfl rfl fun W hW => hR _ _ ⟨hW.fresh', _, by rw [errP_le h]; rfl, by rw [ansP_le h, foldL_len]; exact hW.owns (i := 0) rfl⟩
theorem law3 (A : Option Addr) (c : Nat) (l : List In) (w : World) (hG : ShAt w) (hA : RowAt w A (cellsI l)) :
  CallsV Tryz.prog 3 [.slice A l.length c] w fun v w' => Fresh w w' ∧ v = .bool true := by
 refine calls_go (keep := K3) (nt := 18) (svs := [.val (.slice A l.length c)]) Tryz.func3 x3 n3 (by simp) (by simp [IsL, Is]) fun R hR => ?_
 (refine Y_go 600 ?_; dsimp only [X3, numF, Nat.reduceAdd, zq9r, zq9q, Y_k, zq4u, zq8p, zq6p, YK, zq8t, zq9i, normF, zq6n, Nat.reduceBEq, zq6l, zq6k, zq6m, zq86, zq8a, zq87, zq9y, t3n2, T3n2, zq8o, zq55, zq0r, zq50, zq6q, zq04, zq92, zq9b, zq0i, zq9g, Y_gk, zq6d, YR, zq69, zq9f, zq4v, zq0b, zq6e, YS, zq6a, zq6o, zq89, zq9s, zq6f, YC, t3n0, T3n0, zq9x, zq6c, zq0c, zq6h, zq8x, zq9p, t3n1, T3n1, zq9j, zq6b])
 have done : ∀ F H, denAll H F [2] = some [.bool true] → RetG (cxOf Tryz.prog Tryz.f3 K3 T3 R) ⟨w, w.heap.size, [], 18, []⟩ { F := F, H := H } := fun F H hd =>
  ret_rule (vs := [.bool true]) r3 rfl hd fun W hW => hR _ _ ⟨hW.fresh', rfl⟩
 have hm : l.length ≤ 2000 → (ansP foldL l).length ≤ 2000 := fun h => Nat.le_trans (ansP_len l (by rw [foldL_len]; exact Nat.le_refl _)) h
 refine ⟨fun h1 => ⟨fun h2 => done _ _ rfl, fun h2 => ⟨fun h3 => done _ _ rfl, fun h3 => ?_⟩⟩, fun h1 => ⟨fun h3 => done _ _ rfl, fun h3 => ?_⟩⟩
 all_goals have hl : l.length ≤ 1100 := by have := of_decide_eq_false h3; omega
 all_goals refine call_val (vs := [.int .i64 0, .slice A l.length c]) (R := fun v => v = .bool true) rfl (fun W hW => (law15 0 A c l _ W (hG.keep hW.fresh') (hA.keep hW.fresh') (by omega) (hm (by omega)) (pass27_0 l (by omega)) (pass30_0 l (by omega))).mono fun v w' h => ⟨h.2, h.1⟩) (fun v hv => ⟨.bt, by simpa [Is] using hv, ?_⟩)
 all_goals (refine Y_go 600 ?_; dsimp only [zq8t, Y_k, zq4u, zq8o, zq6n, Nat.reduceBEq, zq6k, YK, zq9i, normF, zq6l, zq8a, zq89, zq87, zq9x])
 all_goals exact done _ _ rfl
end Go.Proofs.YtlbiogokpadaoaaGreatDoor
