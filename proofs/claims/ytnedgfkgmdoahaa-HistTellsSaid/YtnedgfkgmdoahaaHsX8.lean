/- hist.Races. -/
import Derived.Test.YtnedgfkgmdoahaaHsX7
import Derived.Test.YtnedgfkgmdoahaaHsW5
import Derived.Test.YtnedgfkgmdoahaaHsCodeT
set_option linter.unusedSimpArgs false
set_option linter.unusedVariables false
set_option linter.unnecessarySimpa false
namespace Go.Proofs.Ytnedgfkgmdoahaa
open Go Go.Sx Go.Hs
set_option maxRecDepth 100000
def racQ (x : At) (a : Int) (n : Nat) : Bool := !hardB x && (decide (x.frm < n) && ((decide (x.to < 0) || decide (x.to > n)) && decide (a ∈ x.touched)))
def racePH (h : List Ev) (l : List At) (n : Nat) : Bool := plainB (evA h n) && l.any fun x => racQ x (evA h n).addr n
def svR (x : At) (h : Hd) : List SV := [.val (.int .i64 x.core), .val (.int .i64 x.block), .val (.int .i64 x.tr), .val (.int .i64 x.lane), .val (.int .i64 x.frm), .val (.int .i64 x.point), .val (.int .i64 x.to), .val (.slice h.lA x.loads.length h.lc), .val (.slice h.sA x.stores.length h.sc), .val (.bool x.com), .val (.int .i64 x.code), .val (.bool x.odd), .mp 2]
theorem svR_is {H : List SO} {x : At} {h : Hd} (hb : blk H 2 = some h.t) : IsL H (svR x h) (cellsA x h) := by
 simp only [svR, cellsA, IsL]
 refine ⟨_, _, rfl, ⟨_, _, rfl, ⟨_, _, rfl, ⟨_, _, rfl, ⟨_, _, rfl, ⟨_, _, rfl, ⟨_, _, rfl, ⟨_, _, rfl, ⟨_, _, rfl, ⟨_, _, rfl, ⟨_, _, rfl, ⟨_, _, rfl, ⟨_, _, ?_, rfl, rfl⟩, rfl⟩, rfl⟩, rfl⟩, rfl⟩, rfl⟩, rfl⟩, rfl⟩, rfl⟩, rfl⟩, rfl⟩, rfl⟩, rfl⟩
 simp only [Is]; exact ⟨_, hb, rfl⟩
theorem races32 (A : Option Addr) (c : Nat) (h : List Ev) (w : World) (hA : RowAt w A (cellsE h)) (hl : h.length ≤ 1000) :
  CallsV Try.prog 32 [.slice A h.length c] w fun v w' => ((splitL h = none ∧ v = .tuple #[.int .i64 0, .bool false, .int .i64 120]) ∨ ∃ l, splitL h = some l ∧ v = .tuple #[.int .i64 ((frst (racePH h l) h.length).getD 0 : Nat), .bool (frst (racePH h l) h.length).isSome, .int .i64 0]) ∧ Fresh w w' := by
 refine calls_go (keep := K32) (nt := 77) (svs := [.val (.slice A h.length c)]) Try.func32 x32 n32 (by simp) (by simp [IsL, Is]) fun R hR => ?_
 (refine Y_go 600 ?_; dsimp only [X32, numF, Nat.reduceAdd, zq9r, zq9q, Y_k, zq4u, zq8p, zq6q, YK, zq8t, zq6p, zq9i, normF, zq6n, Nat.reduceBEq, zq6l, zq6k, zq6m, zq86, zq87, zq8a, zq9y, t32n14, T32n14, zq8o, zq9j])
 refine call_rule (vs := [.slice A h.length c]) rfl (R := fun W v w' => (splitL h = none ∧ v = .tuple #[.slice none 0 0, .int .i64 120] ∧ Fresh W w') ∨
   (∃ (z : List (At × Hd)) (B : Option Addr) (bc : Nat), splitL h = some (z.map (·.1)) ∧ v = .tuple #[.slice B z.length bc, .int .i64 0] ∧ HeapOk ⟨W, W.heap.size, [], 67, []⟩ ([.own 122 0 1 B z.length bc (ptrs z)] ++ famQ 124 92 z) w')) (fun W hW => split54 A c h W (hA.keep hW.fresh') hl) fun W v W' hW hr => ?_
 rcases hr with ⟨hs, hv, hf⟩ | ⟨z, B, bc, hs, hv, hh⟩
 ·refine ⟨.tup [.val (.slice none 0 0), .val (.int .i64 120)], [], by rw [hv]; simp [Is, IsL], HExt.refl _, hW.freshK hf, ?_⟩
  (refine Y_go 600 ?_; dsimp only [zq8t, Y_k, zq4u, zq8o, zq6n, Nat.reduceBEq, zq6k, YK, zq5j, zq2f, nth, zq2e, zq6l, zq9i, normF, zq6m, zq86, zq87, zq8a, zq9y, t32n13, T32n13, zq9r, zq9q, zq50, zq8p, zq6q, zq04, zq92, zq9b, zq0i, zq9d, zq9s, zq6h, zq8x, YC, t32n0, T32n0, zq6p, zq89, zq9x, zq9p, t32n12, T32n12, zq55, zq0r, zq9t, zq9v])
  refine ⟨fun _ => ?_, fun hb => absurd hb (by decide)⟩
  exact ret_rule (vs := [.int .i64 0, .bool false, .int .i64 120]) r32 rfl rfl fun W hW => hR _ _ ⟨.inl ⟨hs, rfl⟩, hW.fresh'⟩
 have hsh : ∀ e ∈ [SO.own 122 0 1 B z.length bc (ptrs z)] ++ famQ 124 92 z, scpO 0 e = true := fun e he => by
  rcases List.mem_append.1 he with h1 | h1
  ·simp only [List.mem_singleton] at h1; subst h1; rfl
  ·exact famQ_shut _ _ _ e h1
 have hh2 : HeapOk ⟨w, w.heap.size, [], 77, []⟩ (famQ 124 92 z ++ [SO.own 122 0 1 B z.length bc (ptrs z)]) W' := HeapOk.fam (b := []) (r := [SO.own 122 0 1 B z.length bc (ptrs z)] ++ famQ 124 92 z) (r' := famQ 124 92 z ++ [SO.own 122 0 1 B z.length bc (ptrs z)]) ((HeapOk.over0 hW 67 [] rfl).heap hh) (by simp) hsh List.perm_append_comm
 refine ⟨.tup [.val (.slice B z.length bc), .val (.int .i64 0)], famQ 124 92 z ++ [SO.own 122 0 1 B z.length bc (ptrs z)], by rw [hv]; simp [Is, IsL], HExt.nilTo _, hh2, ?_⟩
 clear hh hh2 hv hW W W'
 (refine Y_go 600 ?_; dsimp only [zq8t, Y_k, zq4u, zq8o, zq6n, Nat.reduceBEq, zq6k, YK, zq5j, zq2f, nth, zq2e, zq6l, zq9i, normF, zq6m, zq86, zq87, zq8a, zq9y, t32n13, T32n13, zq9r, zq9q, zq50, zq8p, zq6q, zq04, zq92, zq9b, zq0i, zq9d, zq9s, zq6h, zq8x, YC, t32n0, T32n0, zq6p, zq89, zq9x, zq9p, t32n12, T32n12, zq55, zq0r, zq9t, zq9v])
 refine ⟨fun hb => absurd hb (by decide), fun _ => ?_⟩
 refine G.cut (H1 := famQ 124 92 z) (r := [.own 122 0 1 B z.length bc (ptrs z)]) (List.all_eq_true.2 fun e he => scpO_mono (famQ_shut 124 92 z e he)) ?_ fun W0 hW0 hov => ?_
 ·(simp only [setn, List.nil_append, List.cons_append, leF, leH_nil, leH_cons, leF_nil, lk, scp, scpL, scpO, resF, resH, resO, resV, resVL, nth, Nat.reduceBEq, Nat.reduceLT, decide_true, decide_false, List.length, List.length_cons, List.length_nil, Nat.reduceAdd, Bool.and_self, Bool.and_true, and_true, true_and, numF] <;> try simp)
 generalize hst : fps (famQ 124 92 z) = st at hov ⊢
 have hAE : RowE ⟨W0, W0.heap.size, st, 77, []⟩ A (cellsE h) := (rowE0 hA 77 []).over hov
 have hpE : RowE ⟨W0, W0.heap.size, st, 77, []⟩ B (ptrs z) := by
  rw [← hst]; exact hW0.offO (t := 122) (ver := 0) (sz := 1) (n := z.length) (c := bc) (by simp) 77 []
 have hzl : z.length ≤ 1000 := by
  unfold splitL at hs
  cases hq : sp h h.length with
  | none => rw [hq] at hs; cases hs
  | some s =>
   rw [hq] at hs; injection hs with hs
   have hs : s.out = z.map (·.1) := hs
   have h1 : z.length = s.out.length := by rw [hs, List.length_map]
   have h2 := (sp_ok hq).len
   omega
 have fresh : ∀ {H : List SO} {W2 : World}, HeapOk ⟨W0, W0.heap.size, st, 77, []⟩ H W2 → Fresh w W2 := fun hh => (hov.heap hh).fresh'
 generalize hpd : racePH h (z.map (·.1)) = p at *
 have done : ∀ s m b, denAll s.H s.F [2, 3, 4] = some [.int .i64 m, .bool b, .int .i64 0] → (m = ((frst p h.length).getD 0 : Nat) ∧ b = (frst p h.length).isSome) → RetG (cxOf Try.prog Try.f32 K32 T32 R) ⟨W0, W0.heap.size, st, 77, []⟩ s := fun s m b hq hb =>
  ret_rule (vs := [.int .i64 m, .bool b, .int .i64 0]) r32 rfl hq fun W hW => hR _ _ ⟨.inr ⟨_, hs, by rw [hpd, hb.1, hb.2]; rfl⟩, fresh hW⟩
 refine loop_go (α := Nat) (fun n => n ≤ h.length ∧ frst p n = none) (fun _ => ⟨W0, W0.heap.size, st, 77, []⟩)
  (fun n => { F := [(0, .val (.slice A h.length c)), (5, .val (.slice B z.length bc)), (19, .val (.slice A h.length c)), (20, .val (.int .i64 h.length)), (21, .val (.int .i64 n))], H := famQ 124 92 z }) (fun n => h.length - n) (fun _ => rfl) ?start ?round
 case start =>
  intro a W rep
  exact ⟨0, ⟨Nat.zero_le _, rfl⟩, rep.few 0 (by (simp only [setn, List.nil_append, List.cons_append, leF, leH_nil, leH_cons, leF_nil, lk, scp, scpL, scpO, resF, resH, resO, resV, resVL, nth, Nat.reduceBEq, Nat.reduceLT, decide_true, decide_false, List.length, List.length_cons, List.length_nil, Nat.reduceAdd, Bool.and_self, Bool.and_true, and_true, true_and, numF] <;> try simp))⟩
 case round =>
  rintro n ⟨hn, hno⟩ I again
  have hn : n ≤ h.length := hn
  have hno : frst p n = none := hno
  by_cases hlt : n < h.length
  rotate_left
  ·have hin : n = h.length := by omega
   subst hin
   (refine Y_go 600 ?_; dsimp only [zq9y, t32n10, T32n10, zq9r, zq9q, Y_k, zq50, zq8o, zq6n, Nat.reduceBEq, zq6l, zq6k, zq04, zq92, zq9b, zq0i, zq9e, YK, zq8t, zq9i, normF, zq6m, zq86, zq87, t32n9, T32n9, zq9s, zq6h, zq8x, YC, zq9p, t32n8, T32n8, zq9t, zq4u, zq58, zq06, zq0w, zq5c, zq1p, zq1c, List.nil_append, List.cons_append, zq1b, zq17, zq5e, List.map, zq6q, zq5d, zq7t, List.length_cons, List.length_nil, Nat.reduceAdd, zq8l, zq73, zq8m, zq8k, zq0a, zq1x, zq9u, popTo, zq6i, YP, t32n11, T32n11, zq8p, zq6p, zq8a, zq9x])
   exact ⟨fun hb => absurd (of_decide_eq_true hb) (by omega), fun _ => done _ 0 false rfl (by rw [hno]; exact ⟨rfl, rfl⟩)⟩
  refine G.cut (H1 := []) (r := famQ 124 92 z) rfl (by (simp only [setn, List.nil_append, List.cons_append, leF, leH_nil, leH_cons, leF_nil, lk, scp, scpL, scpO, resF, resH, resO, resV, resVL, nth, Nat.reduceBEq, Nat.reduceLT, decide_true, decide_false, List.length, List.length_cons, List.length_nil, Nat.reduceAdd, Bool.and_self, Bool.and_true, and_true, true_and, numF] <;> try simp)) fun W1 hW1 hov1 => ?_
  have hAE1 := hAE.over hov1
  have cl : ∀ k v, (evA h n).cells[k]? = some v → CellAt ⟨W1, W1.heap.size, fps [], 77, []⟩ A ((n : Int).toNat * 9 + k) v := fun k v hk => evCell hAE1 hlt k v hk
  have hsome : A.isSome = true := hA.isSome (j := n * 9) (by rw [cellsE_len]; omega)
  have hadd : ArOk .add .i64 (n : Int) 1 ((n + 1 : Nat) : Int) := ArOk.to (by omega) (by omega) (by omega)
  have hp : p n = (plainB (evA h n) && (z.map (·.1)).any fun x => racQ x (evA h n).addr n) := by rw [← hpd]; rfl
  have nextn : p n = false → ∀ (a : Act) (W : World), Rep ⟨W0, W0.heap.size, st, 77, []⟩ { F := [(0, .val (.slice A h.length c)), (5, .val (.slice B z.length bc)), (19, .val (.slice A h.length c)), (20, .val (.int .i64 h.length)), (21, .val (.int .i64 ((n + 1 : Nat) : Int)))], H := famQ 124 92 z } a W → I a W := fun hq a W rep =>
   again (n + 1) ⟨hlt, frst_miss hno hq⟩ (by show h.length - (n + 1) < h.length - n; omega) a W rep
  (refine Y_go 600 ?_; dsimp only [zq9y, t32n10, T32n10, zq9r, zq9q, Y_k, zq50, zq8o, zq6n, Nat.reduceBEq, zq6l, zq6k, zq04, zq92, zq9b, zq0i, zq9e, YK, zq8t, zq9i, normF, zq6m, zq86, zq87, t32n9, T32n9, zq9s, zq6h, zq8x, YC, zq9p, t32n8, T32n8, zq9t, zq4u, zq58, zq06, zq0w, zq5c, zq1p, zq1c, List.nil_append, List.cons_append, zq1b, zq17, zq5e, List.length_nil, List.map, zq6q, zq5d, zq7t, List.length_cons, Nat.reduceAdd, zq8l, zq73, zq8m, zq8k, zq0a, zq1x, nth, zq1t, dropL, takeL, zq1r, splice, setn, zq8s, zq89, zq8c, t32n7, T32n7, zq1o, zq1k, zq19, zq9j, zq9u, popTo, zq6i, YP, t32n11, T32n11, zq8p, zq6p, zq8a, zq9x])
  refine ⟨fun _ => ?_, fun hb => absurd (of_decide_eq_false hb) (by omega)⟩
  refine ⟨⟨by omega, by omega, hsome⟩, _, cl 0 _ rfl, _, cl 1 _ rfl, _, cl 2 _ rfl, _, cl 3 _ rfl, _, cl 4 _ rfl, _, cl 5 _ rfl, _, cl 6 _ rfl, _, cl 7 _ rfl, _, cl 8 _ rfl, fun g => ?_⟩
  generalize evA h n = e at *
  refine call_val (R := fun v => v = .bool (plainB e)) (vs := [e.val]) rfl (fun W hW => plain55 e W) fun v hv => ⟨bsv (plainB e), by rw [hv]; cases plainB e <;> simp [Is, bsv], ?_⟩
  cases hpl : plainB e with
  | false =>
   simp only [bsv]
   (refine Y_go 600 ?_; dsimp only [zq8t, Y_k, zq53, zq8o, zq6n, Nat.reduceBEq, zq6k, zq0n, YK, zq9i, normF, zq6l, zq6m, zq86, zq89, zq87, zq8c, zq9s, zq6f, YC, zq9u, popTo, zq6i, YP, zq9q, zq4w, zq8p, zq6q, zq04, zq92, zq9b, zq0e, zq4u, zqa2])
   refine ⟨_, hadd, lend_rule fun a W rep => nextn (by rw [hp, hpl, Bool.false_and]) a W ?_⟩
   exact Rep.back hW1 (famQ_shut 124 92 z) (E' := ⟨W1, W1.heap.size, fps [], 77, []⟩) (H1' := []) (rep.le (by (simp only [setn, List.nil_append, List.cons_append, leF, leH_nil, leH_cons, leF_nil, lk, scp, scpL, scpO, resF, resH, resO, resV, resVL, nth, Nat.reduceBEq, Nat.reduceLT, decide_true, decide_false, List.length, List.length_cons, List.length_nil, Nat.reduceAdd, Bool.and_self, Bool.and_true, and_true, true_and, numF] <;> try simp)) (by (simp only [setn, List.nil_append, List.cons_append, leF, leH_nil, leH_cons, leF_nil, lk, scp, scpL, scpO, resF, resH, resO, resV, resVL, nth, Nat.reduceBEq, Nat.reduceLT, decide_true, decide_false, List.length, List.length_cons, List.length_nil, Nat.reduceAdd, Bool.and_self, Bool.and_true, and_true, true_and, numF] <;> try simp))) (Over.refl _) rfl rfl
  | true =>
   rw [hpl, Bool.true_and] at hp
   simp only [bsv]
   (refine Y_go 600 ?_; dsimp only [zq8t, Y_k, zq53, zq8o, zq6n, Nat.reduceBEq, zq6k, zq0m, YK, zq9i, normF, zq6l, zq6m, zq86, zq8a, zq89, zq87, zq8c, zq9s, zq6g, YC, zq9p, zq9y, t32n6, T32n6, zq9r, zq9q, zq4u, zq55, zq0r, zq8p, zq6q, zq9t, zq9v])
   refine loop_go (α := Nat) (fun i => i ≤ z.length ∧ ((z.take i).any fun q => racQ q.1 e.addr n) = false) (fun _ => ⟨W0, W0.heap.size, st, 77, []⟩)
    (fun i => { F := [(0, .val (.slice A h.length c)), (5, .val (.slice B z.length bc)), (7, .val (.int .i64 n)), (8, .ptr 0 0), (19, .val (.slice A h.length c)), (20, .val (.int .i64 h.length)), (21, .val (.int .i64 n)), (29, .val (.slice B z.length bc)), (30, .val (.int .i64 z.length)), (31, .val (.int .i64 i))], H := [.cells g 65 e.sv] ++ famQ 124 92 z }) (fun i => z.length - i) (fun _ => rfl) ?start2 ?round2
   case start2 =>
    intro a W rep
    exact ⟨0, ⟨Nat.zero_le _, rfl⟩, Rep.back hW1 (famQ_shut 124 92 z) (E' := ⟨W1, W1.heap.size, fps [], 77, []⟩) (H1' := [.cells g 65 e.sv]) (rep.le (by simp only [Ev.sv]; (simp only [setn, List.nil_append, List.cons_append, leF, leH_nil, leH_cons, leF_nil, lk, scp, scpL, scpO, resF, resH, resO, resV, resVL, nth, Nat.reduceBEq, Nat.reduceLT, decide_true, decide_false, List.length, List.length_cons, List.length_nil, Nat.reduceAdd, Bool.and_self, Bool.and_true, and_true, true_and, numF] <;> try simp)) (by simp only [Ev.sv]; (simp only [setn, List.nil_append, List.cons_append, leF, leH_nil, leH_cons, leF_nil, lk, scp, scpL, scpO, resF, resH, resO, resV, resVL, nth, Nat.reduceBEq, Nat.reduceLT, decide_true, decide_false, List.length, List.length_cons, List.length_nil, Nat.reduceAdd, Bool.and_self, Bool.and_true, and_true, true_and, numF] <;> try simp))) (Over.refl _) rfl rfl⟩
   case round2 =>
    rintro i ⟨hi, hit⟩ I2 again2
    have hi : i ≤ z.length := hi
    have fin : p n = false → ∀ (F : List (Nat × SV)) (a : Act) (W : World), Rep ⟨W0, W0.heap.size, st, 77, []⟩ { F := [(0, .val (.slice A h.length c)), (5, .val (.slice B z.length bc)), (19, .val (.slice A h.length c)), (20, .val (.int .i64 h.length)), (21, .val (.int .i64 ((n + 1 : Nat) : Int)))], H := [.cells g 65 e.sv] ++ famQ 124 92 z } a W → I a W := by
     intro hq F a W rep
     have hcl0 : ∀ d, scp 0 (lk [(0, .val (.slice A h.length c)), (5, .val (.slice B z.length bc)), (19, .val (.slice A h.length c)), (20, .val (.int .i64 h.length)), (21, .val (.int .i64 ((n + 1 : Nat) : Int)))] d) = true := fun d => by
      rcases leF_spec (m := 0) (F := [(0, .val (.slice A h.length c)), (5, .val (.slice B z.length bc)), (19, .val (.slice A h.length c)), (20, .val (.int .i64 h.length)), (21, .val (.int .i64 ((n + 1 : Nat) : Int)))]) (F' := [(0, .val (.slice A h.length c)), (5, .val (.slice B z.length bc)), (19, .val (.slice A h.length c)), (20, .val (.int .i64 h.length)), (21, .val (.int .i64 ((n + 1 : Nat) : Int)))]) (by (simp only [setn, List.nil_append, List.cons_append, leF, leH_nil, leH_cons, leF_nil, lk, scp, scpL, scpO, resF, resH, resO, resV, resVL, nth, Nat.reduceBEq, Nat.reduceLT, decide_true, decide_false, List.length, List.length_cons, List.length_nil, Nat.reduceAdd, Bool.and_self, Bool.and_true, and_true, true_and, numF] <;> try simp)) d with k | ⟨_, k⟩
      ·rw [k]; rfl
      ·exact k
     refine nextn hq a W ⟨rep.size, fun d => ?_, rep.defers, ?_⟩
     ·exact ((rep.frame d).pre (H' := []) (r := [.cells g 65 e.sv] ++ famQ 124 92 z) _ (hcl0 d)).app
     ·have k1 : HeapOk ⟨W0, W0.heap.size, st, 77, []⟩ (famQ 124 92 z ++ [.cells g 65 e.sv]) W := HeapOk.fam (b := []) (r := [.cells g 65 e.sv] ++ famQ 124 92 z) (r' := famQ 124 92 z ++ [.cells g 65 e.sv]) rep.heap (by simp) (fun e' he => by
       rcases List.mem_append.1 he with h1 | h1
       ·simp only [List.mem_singleton] at h1; subst h1; rfl
       ·exact famQ_shut 124 92 z e' h1) List.perm_append_comm
      exact k1.pre fun e' he => scpO_mono (famQ_shut 124 92 z e' he)
    by_cases hlz : i < z.length
    rotate_left
    ·have hil : i = z.length := by omega
     subst hil
     (refine Y_go 600 ?_; dsimp only [List.cons_append, List.nil_append, zq9y, t32n5, T32n5, zq9r, zq9q, Y_k, zq50, zq8o, zq6n, Nat.reduceBEq, zq6l, zq6k, zq04, zq92, zq9b, zq0i, zq9e, YK, zq8t, zq9i, normF, zq6m, zq86, zq87, zq8c, t32n4, T32n4, zq9s, zq6h, zq8x, YC, zq9p, t32n3, T32n3, zq9t, zq58, zq06, zq0w, zq5c, zq1p, zq1f, zq1b, zq18, zq4u, zq89, zq8d, t32n2, T32n2, zq9j, zq9u, popTo, zq6i, YP, zqa1, zq4w, zq8p, zq6q, zq0e, zq8a, zqa2])
     refine ⟨fun hb => absurd (of_decide_eq_true hb) (by omega), fun _ => ⟨_, hadd, lend_rule fun a W rep => fin ?_ [] a W (rep.few 0 (by (simp only [setn, List.nil_append, List.cons_append, leF, leH_nil, leH_cons, leF_nil, lk, scp, scpL, scpO, resF, resH, resO, resV, resVL, nth, Nat.reduceBEq, Nat.reduceLT, decide_true, decide_false, List.length, List.length_cons, List.length_nil, Nat.reduceAdd, Bool.and_self, Bool.and_true, and_true, true_and, numF] <;> try simp)))⟩⟩
     rw [hp, List.any_map]
     rw [List.take_length] at hit
     exact hit
    have hzi : z[i]? = some z[i] := List.getElem?_eq_getElem hlz
    generalize z[i] = pz at hzi
    obtain ⟨x, hd⟩ := pz
    refine G.le (E' := ⟨W0, W0.heap.size, st, 77, []⟩) rfl (s' := { F := [(0, .val (.slice A h.length c)), (5, .val (.slice B z.length bc)), (7, .val (.int .i64 n)), (8, .ptr 0 0), (19, .val (.slice A h.length c)), (20, .val (.int .i64 h.length)), (21, .val (.int .i64 n)), (29, .val (.slice B z.length bc)), (30, .val (.int .i64 z.length)), (31, .val (.int .i64 i))], H := [.cells g 65 e.sv] ++ (quad 124 92 x hd ++ famQ 124 92 (z.eraseIdx i)) }) (fun a W rep => rep.fam' (by (simp only [setn, List.nil_append, List.cons_append, leF, leH_nil, leH_cons, leF_nil, lk, scp, scpL, scpO, resF, resH, resO, resV, resVL, nth, Nat.reduceBEq, Nat.reduceLT, decide_true, decide_false, List.length, List.length_cons, List.length_nil, Nat.reduceAdd, Bool.and_self, Bool.and_true, and_true, true_and, numF] <;> try simp)) rfl (famQ_shut 124 92 z) (famQ_out 124 92 hzi)) ?_
    refine G.cut (H1 := [.cells g 65 e.sv] ++ quad 124 92 x hd) (r := famQ 124 92 (z.eraseIdx i)) (F := [(0, .val (.slice A h.length c)), (5, .val (.slice B z.length bc)), (7, .val (.int .i64 n)), (8, .ptr 0 0), (19, .val (.slice A h.length c)), (20, .val (.int .i64 h.length)), (21, .val (.int .i64 n)), (29, .val (.slice B z.length bc)), (30, .val (.int .i64 z.length)), (31, .val (.int .i64 i))]) rfl (by simp only [quad, List.cons_append, List.nil_append]; (simp only [setn, List.nil_append, List.cons_append, leF, leH_nil, leH_cons, leF_nil, lk, scp, scpL, scpO, resF, resH, resO, resV, resVL, nth, Nat.reduceBEq, Nat.reduceLT, decide_true, decide_false, List.length, List.length_cons, List.length_nil, Nat.reduceAdd, Bool.and_self, Bool.and_true, and_true, true_and, numF] <;> try simp)) fun W2 hW2 hov2 => ?_
    generalize hst2 : fps ([SO.cells g 65 e.sv] ++ quad 124 92 x hd) = st2 at hov2 ⊢
    have hpE2 := hpE.over hov2
    simp only [Ev.sv, quad, List.cons_append, List.nil_append]
    (refine Y_go 600 ?_; dsimp only [zq9y, t32n5, T32n5, zq9r, zq9q, Y_k, zq50, zq8o, zq6n, Nat.reduceBEq, zq6l, zq6k, zq04, zq92, zq9b, zq0i, zq9e, YK, zq8t, zq9i, normF, zq6m, zq86, zq87, zq8c, t32n4, T32n4, zq9s, zq6h, zq8x, YC, zq9p, t32n3, T32n3, zq9t, zq58, zq06, zq0w, zq5c, zq1p, zq1f, List.nil_append, zq1b, zq18, zq4u, zq89, zq8d, t32n2, T32n2, zq9j, zq9u, popTo, zq6i, YP, zqa1, zq4w, zq8p, zq6q, zq0e, zq8a, zqa2])
    refine ⟨fun _ => ?_, fun hb => absurd (of_decide_eq_false hb) (by omega)⟩
    have hBs : B.isSome = true := hpE.isSome (j := i) (by simp [ptrs]; omega)
    refine ⟨⟨by omega, by omega, hBs⟩, some ⟨hd.g, 0, none⟩, hpE2.cell (by rw [Int.toNat_natCast, Nat.mul_one]; exact ptrs_get hzi), ?_⟩
    refine G.le (E' := ⟨W2, W2.heap.size, st2, 77, []⟩) rfl (s' := { F := [(35, .ptr 1 0), (10, .ptr 1 0), (0, .val (.slice A h.length c)), (5, .val (.slice B z.length bc)), (7, .val (.int .i64 n)), (8, .ptr 0 0), (19, .val (.slice A h.length c)), (20, .val (.int .i64 h.length)), (21, .val (.int .i64 n)), (29, .val (.slice B z.length bc)), (30, .val (.int .i64 z.length)), (31, .val (.int .i64 i))], H := [.cells g 65 e.sv, .cells hd.g 124 (svR x hd), .map hd.t (tcV x.touched), .own 92 0 2 hd.lA x.loads.length hd.lc (cellsPr x.loads), .own 92 0 2 hd.sA x.stores.length hd.sc (cellsPr x.stores)] }) (fun a W rep => ?_) ?_
    ·have r1 := rep.rowTo 1 (l := svR x hd) rfl (svR_is rfl)
     have sw : ∀ (d : Nat), ∀ v, Is [.cells g 65 e.sv, .cells hd.g 124 (svR x hd), .map hd.t (tcV x.touched), .own 92 0 2 hd.lA x.loads.length hd.lc (cellsPr x.loads), .own 92 0 2 hd.sA x.stores.length hd.sc (cellsPr x.stores)] (.adr (some ⟨hd.g, 0, none⟩) 0) v → Is [.cells g 65 e.sv, .cells hd.g 124 (svR x hd), .map hd.t (tcV x.touched), .own 92 0 2 hd.lA x.loads.length hd.lc (cellsPr x.loads), .own 92 0 2 hd.sA x.stores.length hd.sc (cellsPr x.stores)] (.ptr 1 0) v := fun d v hv => by
      simp only [Is] at hv ⊢
      exact ⟨_, rfl, by rw [hv]; rfl⟩
     exact (rep_swap 10 (rep_swap 35 r1 rfl (sw 35)) rfl (sw 10)).le (by simp only [svR, Ev.sv]; (simp only [setn, List.nil_append, List.cons_append, leF, leH_nil, leH_cons, leF_nil, lk, scp, scpL, scpO, resF, resH, resO, resV, resVL, nth, Nat.reduceBEq, Nat.reduceLT, decide_true, decide_false, List.length, List.length_cons, List.length_nil, Nat.reduceAdd, Bool.and_self, Bool.and_true, and_true, true_and, numF] <;> try simp)) (by simp only [setn, svR, Ev.sv]; (simp only [setn, List.nil_append, List.cons_append, leF, leH_nil, leH_cons, leF_nil, lk, scp, scpL, scpO, resF, resH, resO, resV, resVL, nth, Nat.reduceBEq, Nat.reduceLT, decide_true, decide_false, List.length, List.length_cons, List.length_nil, Nat.reduceAdd, Bool.and_self, Bool.and_true, and_true, true_and, numF] <;> try simp))
    simp only [svR, Ev.sv]
    refine call_val (R := fun v => v = .bool (hardB x)) (vs := [ptrH hd]) rfl (fun W hW => hard56 x hd (some ⟨hd.g, 0, none⟩) W (hW.cellsAt (i := 1) (xs := cellsA x hd) rfl rfl)) fun v hv => ⟨.val (.bool (hardB x)), by rw [hv]; simp [Is], ?_⟩
    obtain ⟨tv, htv, htm⟩ : ∃ tv : Int, mget (tcV x.touched) (.int .i64 e.addr) = (if e.addr ∈ x.touched then some (.int .i64 1) else none) ∧ ((tv = 1 ∧ e.addr ∈ x.touched) ∨ (tv = 0 ∧ e.addr ∉ x.touched)) := by
     by_cases hm : e.addr ∈ x.touched
     ·exact ⟨1, mget_tc _ _, .inl ⟨rfl, hm⟩⟩
     ·exact ⟨0, mget_tc _ _, .inr ⟨rfl, hm⟩⟩
    have hgd : (mget (tcV x.touched) (.int .i64 e.addr)).getD (.int .i64 0) = .int .i64 tv := by
     rcases htm with ⟨h1, h2⟩ | ⟨h1, h2⟩
     ·rw [htv, if_pos h2, h1]; rfl
     ·rw [htv, if_neg h2, h1]; rfl
    have hq : racQ x e.addr n = true ↔ hardB x = false ∧ x.frm < n ∧ (x.to < 0 ∨ x.to > n) ∧ tv = 1 := by
     have hmm : e.addr ∈ x.touched ↔ tv = 1 := by
      rcases htm with ⟨h1, h2⟩ | ⟨h1, h2⟩
      ·exact ⟨fun _ => h1, fun _ => h2⟩
      ·exact ⟨fun h => absurd h h2, fun h => by omega⟩
     unfold racQ; simp [hmm]
    have htk : (z.take (i + 1)).any (fun q => racQ q.1 e.addr n) = racQ x e.addr n := by
     rw [List.take_add_one, hzi, List.any_append, hit]; simp
    have hany : racQ x e.addr n = true → (n : Int) = ((frst p h.length).getD 0 : Nat) ∧ true = (frst p h.length).isSome := by
     intro hq
     have hpn : p n = true := by
      rw [hp, List.any_eq_true]
      exact ⟨x, List.mem_map.2 ⟨_, List.mem_of_getElem? hzi, rfl⟩, hq⟩
     rw [frst_hit hno hpn hlt]; exact ⟨rfl, rfl⟩
    have haddi : ArOk .add .i64 (i : Int) 1 ((i + 1 : Nat) : Int) := ArOk.to (by omega) (by omega) (by omega)
    have miss : racQ x e.addr n = false → ∀ (a : Act) (W : World), Rep ⟨W2, W2.heap.size, st2, 77, []⟩ { F := [(0, .val (.slice A h.length c)), (5, .val (.slice B z.length bc)), (7, .val (.int .i64 n)), (8, .ptr 0 0), (19, .val (.slice A h.length c)), (20, .val (.int .i64 h.length)), (21, .val (.int .i64 n)), (29, .val (.slice B z.length bc)), (30, .val (.int .i64 z.length)), (31, .val (.int .i64 ((i + 1 : Nat) : Int)))], H := [.cells g 65 e.sv, .cells hd.g 124 (svR x hd), .map hd.t (tcV x.touched), .own 92 0 2 hd.lA x.loads.length hd.lc (cellsPr x.loads), .own 92 0 2 hd.sA x.stores.length hd.sc (cellsPr x.stores)] } a W → I2 a W := by
     intro hqf a W rep
     have r1 := rep.torow 1 (g := hd.g) (t := 124) (xs := cellsA x hd) rfl rfl
     have r2 := Rep.back hW2 (famQ_shut 124 92 (z.eraseIdx i)) (E := ⟨W0, W0.heap.size, st, 77, []⟩) (E' := ⟨W2, W2.heap.size, st2, 77, []⟩) (nt := 77) (mk := []) (H1' := [.cells g 65 e.sv] ++ quad 124 92 x hd) r1 (by rw [hst2]; exact Over.refl _) rfl rfl
     have r3 := Rep.fam' (b := [.cells g 65 e.sv]) (r := quad 124 92 x hd ++ famQ 124 92 (z.eraseIdx i)) (r' := famQ 124 92 z) r2 (by (simp only [setn, List.nil_append, List.cons_append, leF, leH_nil, leH_cons, leF_nil, lk, scp, scpL, scpO, resF, resH, resO, resV, resVL, nth, Nat.reduceBEq, Nat.reduceLT, decide_true, decide_false, List.length, List.length_cons, List.length_nil, Nat.reduceAdd, Bool.and_self, Bool.and_true, and_true, true_and, numF] <;> try simp)) rfl (fun e' he => by
      rcases List.mem_append.1 he with h2 | h2
      ·exact quad_shut _ _ _ _ e' h2
      ·exact famQ_shut _ _ _ e' h2) (famQ_out 124 92 hzi).symm
     exact again2 (i + 1) ⟨hlz, by rw [htk]; exact hqf⟩ (by show z.length - (i + 1) < z.length - i; omega) a W r3
    have hdone : ∀ s, denAll s.H s.F [2, 3, 4] = some [.int .i64 n, .bool true, .int .i64 0] → racQ x e.addr n = true → RetG (cxOf Try.prog Try.f32 K32 T32 R) ⟨W2, W2.heap.size, st2, 77, []⟩ s := fun s hs2 hq2 =>
     ret_rule (vs := [.int .i64 n, .bool true, .int .i64 0]) r32 rfl hs2 fun W hW => hR _ _ ⟨.inr ⟨_, hs, by rw [hpd, (hany hq2).1, (hany hq2).2]; rfl⟩, fresh (hov2.heap hW)⟩
    have hkeys := tcV_keys x.touched
    clear again again2 hany htk hit hp nextn fin hpE hpE2 hAE hAE1 cl
    (refine Y_go 600 ?_; dsimp only [zq8t, Y_k, zq53, zq8o, zq6n, Nat.reduceBEq, zq6k, zq0o, YK, zq4u, Y_gk, zq6d, YR, zq6l, zq69, zq5i, zq29, zq5a, zq14, Nat.add_zero, Nat.reduceAdd, zq5c, zq1o, nth, zq1k, List.length_cons, List.length_nil, dropL, takeL, zq19, zq18, zq50, zq04, zq92, zq9b, zq0i, zq9e, zq4v, zq8p, zq6p, zq0b, zq6q, zq6e, YS, zq6a, zq6o, zq61, zq4h, zq00, zq4g, zq4f, zq6c, zq9g, zq0c, zq6b, zq9i, normF, zq6m, zq8a, zq86, zq87, zq8c, zq9s, zq6g, YC, zq9p, zqa1, zq9q, zq4w, zq0e, zqa2, zq03])
    repeat' first
     | refine ⟨fun q => ?_, fun q => ?_⟩ <;> (try simp only [decide_eq_true_eq, decide_eq_false_iff_not, Bool.not_eq_true', Bool.not_eq_false'] at q)
     | (refine ⟨hkeys, _, rfl, .val (.int .i64 tv), by rw [hgd]; rfl, ?_⟩
        dsimp only [zq04, zq92, zq9b, zq0i, zq9g, YK, zq8t, Y_k, zq4v, zq8o, zq6n, Nat.reduceBEq, zq6k, zq8p, zq6p, zq6l, zq0b, zq9i, normF, zq6m, zq87, zq86, zq8c, zq9s, zq6h, zq8x, YC, zq9y, t32n1, T32n1, zq9r, zq9q, zq4u, zq6o, zq6q, zq89, zq9x, zq9p, zqa1, zq4w, zq0e, zq8a, zqa2])
     | (refine hdone _ rfl (hq.2 ⟨‹_›, by omega, by omega, by omega⟩))
     | (refine ⟨_, haddi, lend_rule fun a W rep => miss ?_ a W (rep.le ?_ ?_)⟩
        rotate_left
        · simp only [Ev.sv]
          (simp only [setn, List.nil_append, List.cons_append, leF, leH_nil, leH_cons, leF_nil, lk, scp, scpL, scpO, resF, resH, resO, resV, resVL, nth, Nat.reduceBEq, Nat.reduceLT, decide_true, decide_false, List.length, List.length_cons, List.length_nil, Nat.reduceAdd, Bool.and_self, Bool.and_true, and_true, true_and, numF] <;> try simp)
          done
        · simp only [Ev.sv, svR]
          (simp only [setn, List.nil_append, List.cons_append, leF, leH_nil, leH_cons, leF_nil, lk, scp, scpL, scpO, resF, resH, resO, resV, resVL, nth, Nat.reduceBEq, Nat.reduceLT, decide_true, decide_false, List.length, List.length_cons, List.length_nil, Nat.reduceAdd, Bool.and_self, Bool.and_true, and_true, true_and, numF] <;> try simp)
          done
        rw [Bool.eq_false_iff]
        intro hh
        have hh := hq.1 hh
        first
          | omega
          | (have hc := hh.1
             simp_all
             done))
     | fail
end Go.Proofs.Ytnedgfkgmdoahaa
