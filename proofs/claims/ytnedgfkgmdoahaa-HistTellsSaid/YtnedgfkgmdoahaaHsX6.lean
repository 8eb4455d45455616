/- shuntref12.Races. -/
import Derived.Test.YtnedgfkgmdoahaaHsX5
import Derived.Test.YtnedgfkgmdoahaaHsCodeT
set_option linter.unusedSimpArgs false
set_option linter.unusedVariables false
set_option linter.unnecessarySimpa false
namespace Go.Proofs.Ytnedgfkgmdoahaa
open Go Go.Sx Go.Hs
set_option maxRecDepth 100000
def frst (p : Nat → Bool) : Nat → Option Nat
 | 0 => none
 | n + 1 => match frst p n with
  | some m => some m
  | none => if p n then some n else none
theorem frst_hit {p : Nat → Bool} {n : Nat} (h0 : frst p n = none) (h1 : p n = true) : ∀ {m : Nat}, n < m → frst p m = some n
 | 0, h => by omega
 | m + 1, h => by
  by_cases e : n = m
  ·subst e; simp only [frst]; rw [h0, h1]; rfl
  ·simp only [frst]; rw [frst_hit h0 h1 (m := m) (by omega)]
theorem frst_miss {p : Nat → Bool} {n : Nat} (h0 : frst p n = none) (h1 : p n = false) : frst p (n + 1) = none := by
 simp only [frst]; rw [h0, h1]; rfl
def overB (x : At) (n : Nat) : Bool := decide (x.lane > 2) && (decide (x.frm < n) && (decide (x.to < 0) || decide (x.to > n)))
def raceP (h : List Ev) (l : List At) (n : Nat) : Bool := decide ((evA h n).kind ≥ 7) && l.any fun x => overB x n && touN h x (evA h n).addr h.length
theorem AtsAt.of {w : World} {N n c : Nat} {A : Option Addr} {z : List (At × Hd)} (h : World.ownsB w N 90 11 (.slice A n c) n (cellsTs z)) (h2 : AttAt w z) : AtsAt w A z := ⟨RowAt.of_own h rfl, h2⟩
theorem refraces36 (A : Option Addr) (c : Nat) (h : List Ev) (w : World) (hA : RowAt w A (cellsE h)) (hl : h.length ≤ 1000) (hm : mayL h = true) :
  CallsV Try.prog 36 [.slice A h.length c] w fun v w' => v = .tuple #[.int .i64 ((frst (raceP h (splitR h)) h.length).getD 0 : Nat), .bool (frst (raceP h (splitR h)) h.length).isSome] ∧ Fresh w w' := by
 refine calls_go (keep := K36) (nt := 81) (svs := [.val (.slice A h.length c)]) Try.func36 x36 n36 (by simp) (by simp [IsL, Is]) fun R hR => ?_
 (refine Y_go 600 ?_; dsimp only [X36, numF, Nat.reduceAdd, zq9r, zq9q, Y_k, zq4u, zq8p, zq6q, YK, zq8t, zq6p, zq9i, normF, zq6n, Nat.reduceBEq, zq6l, zq6k, zq6m, zq86, zq8a, zq87, zq9y, t36n10, T36n10, zq8o, zq9j])
 refine call_base (vs := [.slice A h.length c]) rfl (R := fun W v w' => ∃ (z : List (At × Hd)) (B D : Option Addr) (bc dc : Nat), z.map (·.1) = splitR h ∧ v = .tuple #[.slice B z.length bc, .slice D z.length dc] ∧ AtsAt w' B z ∧ Fresh W w') (fun W hW => (refsplit35 A c h W (hA.keep hW.fresh') hl hm).mono fun v w' ⟨z, B, D, bc, dc, h1, h2, h3, h4, h5, h6, _⟩ => ⟨z, B, D, bc, dc, h1, h2, .of h3 h5, h6⟩) (fun _ _ _ hr => by obtain ⟨_, _, _, _, _, _, _, _, hf⟩ := hr; exact hf) fun W v W' hW hr ov => ?_
 obtain ⟨z, B, D, bc, dc, hz, hv, hat, hf⟩ := hr
 refine ⟨.tup [.val (.slice B z.length bc), .val (.slice D z.length dc)], by rw [hv]; simp [Is, IsL], ?_⟩
 have hAE : RowE ⟨W', W'.heap.size, [], 81, []⟩ A (cellsE h) := (rowE0 hA 81 []).over ov
 have hzE : RowE ⟨W', W'.heap.size, [], 81, []⟩ B (cellsTs z) := rowE0 hat.row 81 []
 show G _ ⟨W', W'.heap.size, [], 81, []⟩ _ _
 (refine Y_go 600 ?_; dsimp only [zq8t, Y_k, zq4u, zq8o, zq6n, Nat.reduceBEq, zq6k, YK, zq5j, zq2f, nth, zq2e, zq6l, zq9i, normF, zq6m, zq86, zq87, zq8a, zq9y, t36n9, T36n9, zq9r, zq9q, zq8p, zq6q, zq9t, zq9v])
 have fresh : ∀ {H : List SO} {W2 : World}, HeapOk ⟨W', W'.heap.size, [], 81, []⟩ H W2 → Fresh w W2 := fun hh => (ov.heap hh).fresh'
 have hzl : z.length ≤ 1000 := by
  have := congrArg List.length hz
  have h2 := begs_len h h.length
  unfold splitR at this
  simp only [List.length_map] at this
  omega
 generalize hpd : raceP h (splitR h) = p at *
 have done : ∀ s m b, denAll s.H s.F [2, 3] = some [.int .i64 m, .bool b] → (m = ((frst p h.length).getD 0 : Nat) ∧ b = (frst p h.length).isSome) → RetG (cxOf Try.prog Try.f36 K36 T36 R) ⟨W', W'.heap.size, [], 81, []⟩ s := fun s m b hs hb =>
  ret_rule (vs := [.int .i64 m, .bool b]) r36 rfl hs fun W hW => hR _ _ ⟨by rw [hb.1, hb.2]; rfl, fresh hW⟩
 refine loop_go (α := Nat) (fun n => n ≤ h.length ∧ frst p n = none) (fun _ => ⟨W', W'.heap.size, [], 81, []⟩)
  (fun n => { F := [(0, .val (.slice A h.length c)), (4, .val (.slice B z.length bc)), (6, .val (.int .i64 n))], H := [] }) (fun n => h.length - n) (fun _ => rfl) ?start ?round
 case start =>
  intro a W rep
  exact ⟨0, ⟨Nat.zero_le _, rfl⟩, rep.le (by (simp only [setn, List.nil_append, List.cons_append, leF, leH_nil, leH_cons, leF_nil, lk, scp, scpL, scpO, resF, resH, resO, resV, resVL, nth, Nat.reduceBEq, Nat.reduceLT, decide_true, decide_false, List.length, List.length_cons, List.length_nil, Nat.reduceAdd, Bool.and_self, Bool.and_true, and_true, true_and, numF] <;> try simp)) (by (simp only [setn, List.nil_append, List.cons_append, leF, leH_nil, leH_cons, leF_nil, lk, scp, scpL, scpO, resF, resH, resO, resV, resVL, nth, Nat.reduceBEq, Nat.reduceLT, decide_true, decide_false, List.length, List.length_cons, List.length_nil, Nat.reduceAdd, Bool.and_self, Bool.and_true, and_true, true_and, numF] <;> try simp))⟩
 case round =>
  rintro n ⟨hn, hno⟩ I again
  have hn : n ≤ h.length := hn
  have hno : frst p n = none := hno
  (refine Y_go 600 ?_; dsimp only [zq9y, t36n7, T36n7, zq9r, zq9q, Y_k, zq4u, zq8o, zq6n, Nat.reduceBEq, zq6l, zq6k, YK, zq8t, zq55, zq0r, zq50, zq04, zq92, zq9b, zq0i, zq9e, zq9i, normF, zq6m, zq86, zq87, zq9s, zq6h, zq8x, YC, zq9p, t36n6, T36n6, zq9t, zq8p, zq6q, zq89, zq9v, zq9u, popTo, zq6i, YP, t36n8, T36n8, zq6p, zq8a, zq9x])
  refine ⟨fun hlt => ?_, fun hge => ?_⟩
  rotate_left
  ·have hin : n = h.length := by have := of_decide_eq_false hge; omega
   subst hin
   exact done _ 0 false rfl (by rw [hno]; exact ⟨rfl, rfl⟩)
  have hlt : n < h.length := by have := of_decide_eq_true hlt; omega
  have hsome : A.isSome = true := hA.isSome (j := n * 9) (by rw [cellsE_len]; omega)
  have cl : ∀ k v, (evA h n).cells[k]? = some v → CellAt ⟨W', W'.heap.size, [], 81, []⟩ A ((n : Int).toNat * 9 + k) v := fun k v hk => evCell hAE hlt k v hk
  have hb : 0 ≤ (n : Int) ∧ (n : Int) < (h.length : Int) ∧ A.isSome = true := ⟨by omega, by omega, hsome⟩
  have hadd : ArOk .add .i64 (n : Int) 1 ((n + 1 : Nat) : Int) := ArOk.to (by omega) (by omega) (by omega)
  have c0 := cl 0 _ rfl
  have c6 := cl 6 _ rfl
  clear cl
  have hp : p n = (decide ((evA h n).kind ≥ 7) && (z.map (·.1)).any fun x => overB x n && touN h x (evA h n).addr h.length) := by rw [← hpd, hz]; rfl
  generalize evA h n = e at *
  refine loop_go (α := Nat) (fun i => i ≤ z.length ∧ (i = 0 ∨ e.kind ≥ 7) ∧ ((z.take i).any fun p => overB p.1 n && touN h p.1 e.addr h.length) = false) (fun _ => ⟨W', W'.heap.size, [], 81, []⟩)
   (fun i => { F := [(0, .val (.slice A h.length c)), (4, .val (.slice B z.length bc)), (6, .val (.int .i64 n)), (7, .val (.int .i64 i))], H := [] }) (fun i => z.length - i) (fun _ => rfl) ?start2 ?round2
  case start2 =>
   intro a W rep
   exact ⟨0, ⟨Nat.zero_le _, .inl rfl, rfl⟩, rep.le (by (simp only [setn, List.nil_append, List.cons_append, leF, leH_nil, leH_cons, leF_nil, lk, scp, scpL, scpO, resF, resH, resO, resV, resVL, nth, Nat.reduceBEq, Nat.reduceLT, decide_true, decide_false, List.length, List.length_cons, List.length_nil, Nat.reduceAdd, Bool.and_self, Bool.and_true, and_true, true_and, numF] <;> try simp)) (by (simp only [setn, List.nil_append, List.cons_append, leF, leH_nil, leH_cons, leF_nil, lk, scp, scpL, scpO, resF, resH, resO, resV, resVL, nth, Nat.reduceBEq, Nat.reduceLT, decide_true, decide_false, List.length, List.length_cons, List.length_nil, Nat.reduceAdd, Bool.and_self, Bool.and_true, and_true, true_and, numF] <;> try simp))⟩
  case round2 =>
   rintro i ⟨hi, hik, hit⟩ I2 again2
   have hi : i ≤ z.length := hi
   (refine Y_go 600 ?_; dsimp only [zq9y, t36n4, T36n4, zq9r, zq9q, Y_k, zq4u, zq8o, zq6n, Nat.reduceBEq, zq6l, zq6k, YK, zq8t, zq55, zq0r, zq50, zq04, zq92, zq9b, zq0i, zq9e, Y_gk, zq6d, YR, zq69, zq58, zq06, zq0w, zq5a, zq16, Nat.add_zero, zq5c, zq1p, zq1c, List.nil_append, zq1b, zq18, zq8p, zq6q, zq9h, zq4v, zq6p, zq0b, zq9i, normF, zq6m, zq86, zq87, zq9s, zq6h, zq8x, YC, zq9p, t36n3, T36n3, zq9t, zq9g, zq6e, YS, zq6a, zq6o, zq89, t36n1, T36n1, List.cons_append, zq1g, zq1d, zq17, zq9l, YG, zq6c, zq0c, zq6b, zq8a, zq6g, zqa1, t36n2, T36n2, zq4w, zq0e, zqa2, zq03, zq9u, popTo, zq6i, YP, t36n5, T36n5])
   have nextn : (i = z.length ∨ e.kind < 7) → ∀ (a : Act) (W : World), Rep ⟨W', W'.heap.size, [], 81, []⟩ { F := [(0, .val (.slice A h.length c)), (4, .val (.slice B z.length bc)), (6, .val (.int .i64 ((n + 1 : Nat) : Int)))], H := [] } a W → I a W := by
    intro hc a W rep
    refine again (n + 1) ⟨hlt, frst_miss hno ?_⟩ (by show h.length - (n + 1) < h.length - n; omega) a W rep
    rw [hp]
    rcases hc with hc | hc
    ·subst hc
     rw [List.take_length] at hit
     rw [List.any_map, show ((fun x => overB x n && touN h x e.addr h.length) ∘ fun x : At × Hd => x.1) = fun p : At × Hd => overB p.1 n && touN h p.1 e.addr h.length from rfl, hit, Bool.and_false]
    ·rw [decide_eq_false (by omega : ¬ e.kind ≥ 7), Bool.false_and]
   refine ⟨fun hlz => ?_, fun hge => ⟨_, hadd, lend_rule fun a W rep => nextn (.inl (by have := of_decide_eq_false hge; omega)) a W (rep.le (by (simp only [setn, List.nil_append, List.cons_append, leF, leH_nil, leH_cons, leF_nil, lk, scp, scpL, scpO, resF, resH, resO, resV, resVL, nth, Nat.reduceBEq, Nat.reduceLT, decide_true, decide_false, List.length, List.length_cons, List.length_nil, Nat.reduceAdd, Bool.and_self, Bool.and_true, and_true, true_and, numF] <;> try simp)) (by (simp only [setn, List.nil_append, List.cons_append, leF, leH_nil, leH_cons, leF_nil, lk, scp, scpL, scpO, resF, resH, resO, resV, resVL, nth, Nat.reduceBEq, Nat.reduceLT, decide_true, decide_false, List.length, List.length_cons, List.length_nil, Nat.reduceAdd, Bool.and_self, Bool.and_true, and_true, true_and, numF] <;> try simp)))⟩⟩
   have hlz : i < z.length := by have := of_decide_eq_true hlz; omega
   have hzi : z[i]? = some z[i] := List.getElem?_eq_getElem hlz
   generalize hzp : z[i] = pz at hzi
   have clB : ∀ k v, (cellsT pz.1 pz.2)[k]? = some v → CellAt ⟨W', W'.heap.size, [], 81, []⟩ B ((i : Int).toNat * 11 + k) v := by
    intro k v hk
    rw [Int.toNat_natCast]
    exact hzE.cell (by rw [cellsTs_get z hlz (List.getElem?_eq_some_iff.1 hk).1, hzp]; exact hk)
   have hBs : B.isSome = true := hat.row.isSome (j := i * 11) (by rw [cellsTs_len]; omega)
   have hbz : 0 ≤ (i : Int) ∧ (i : Int) < (z.length : Int) ∧ B.isSome = true := ⟨by omega, by omega, hBs⟩
   have haddi : ArOk .add .i64 (i : Int) 1 ((i + 1 : Nat) : Int) := ArOk.to (by omega) (by omega) (by omega)
   have htk : (z.take (i + 1)).any (fun p => overB p.1 n && touN h p.1 e.addr h.length) = (overB pz.1 n && touN h pz.1 e.addr h.length) := by
    rw [List.take_add_one, hzi, List.any_append, hit]; simp
   have hany : (overB pz.1 n && touN h pz.1 e.addr h.length) = true → e.kind ≥ 7 → (n : Int) = ((frst p h.length).getD 0 : Nat) ∧ true = (frst p h.length).isSome := by
    intro hq hk7
    have hpn : p n = true := by
     rw [hp, decide_eq_true hk7, Bool.true_and, List.any_eq_true]
     exact ⟨pz.1, List.mem_map_of_mem (f := fun x : At × Hd => x.1) (List.mem_of_getElem? hzi), hq⟩
    rw [frst_hit hno hpn hlt]; exact ⟨rfl, rfl⟩
   have hfr : 0 ≤ pz.1.frm ∧ pz.1.frm ≤ h.length := by
    have h1 : pz.1 ∈ splitR h := by rw [← hz]; exact List.mem_map_of_mem (f := fun x : At × Hd => x.1) (List.mem_of_getElem? hzi)
    obtain ⟨k, hk, hk2⟩ := List.mem_map.1 h1
    have := begs_lt h _ k hk
    rw [← hk2, (oneTo_own h k h.length).2.2.2.2]; omega
   have hovr : overB pz.1 n = true ↔ pz.1.lane > 2 ∧ pz.1.frm < n ∧ (pz.1.to < 0 ∨ pz.1.to > n) := by unfold overB; simp
   obtain ⟨x, hd⟩ := pz
   simp only at clB htk hany hfr hovr
   have miss : e.kind ≥ 7 → (overB x n && touN h x e.addr h.length) = false → ∀ (a : Act) (W : World), Rep ⟨W', W'.heap.size, [], 81, []⟩ { F := [(0, .val (.slice A h.length c)), (4, .val (.slice B z.length bc)), (6, .val (.int .i64 n)), (7, .val (.int .i64 ((i + 1 : Nat) : Int)))], H := [] } a W → I2 a W := fun hk7 hq a W rep =>
    again2 (i + 1) ⟨hlz, .inr hk7, by rw [htk]; exact hq⟩ (by show z.length - (i + 1) < z.length - i; omega) a W rep
   have d0 := clB 0 _ rfl
   have d1 := clB 1 _ rfl
   have d2 := clB 2 _ rfl
   have d3 := clB 3 _ rfl
   have d4 := clB 4 _ rfl
   have d5 := clB 5 _ rfl
   have d6 := clB 6 _ rfl
   have d7 := clB 7 _ rfl
   have d8 := clB 8 _ rfl
   have d9 := clB 9 _ rfl
   have d10 := clB 10 _ rfl
   clear clB again2 again htk hp hz hat hzE hit
   generalize htb : touN h x e.addr h.length = tb at *
   generalize hob : overB x n = ob at *
   have hcl : ∀ W2, Fresh w W2 → CallsV Try.prog 59 [.slice A h.length c, .agg (cellsT x hd).toArray, .int .i64 e.addr] W2 fun v w' => v = .bool tb ∧ Fresh W2 w' := fun W2 hf => by rw [← htb]; exact touches59 A c h x hd e.addr W2 (hA.keep hf) hl hfr.1 hfr.2
   repeat' first
    | refine ⟨fun q => ?_, fun q => ?_⟩ <;> (try simp only [decide_eq_true_eq, decide_eq_false_iff_not] at q)
    | refine ⟨hb, hsome, _, c0, ?_⟩
    | refine ⟨hb, hsome, _, c6, ?_⟩
    | refine ⟨hbz, hBs, _, d3, ?_⟩
    | refine ⟨hbz, hBs, _, d4, ?_⟩
    | refine ⟨hbz, hBs, _, d6, ?_⟩
    | refine ⟨hbz, _, d0, _, d1, _, d2, _, d3, _, d4, _, d5, _, d6, _, _, _, d7, _, _, _, d8, _, d9, _, d10, ?_⟩
    | (refine call_val (R := fun v => v = .bool tb) (vs := [.slice A h.length c, .agg (cellsT x hd).toArray, .int .i64 e.addr]) rfl (fun W hW => hcl W (fresh hW)) fun v hv => ⟨.val (.bool tb), by rw [hv]; simp [Is], ?_⟩
       (refine Y_go 600 ?_; dsimp only [zq8t, Y_k, zq4v, zq8o, zq6n, Nat.reduceBEq, zq6k, zq8p, zq6p, zq6l, zq0b, YK, zq9i, normF, zq6m, zq87, zq89, zq86, zq9s, zq6h, zq8x, YC, zq9y, t36n0, T36n0, zq9r, zq9q, zq4u, zq6o, zq9x, zq9p, zqa1, t36n2, T36n2, zq4w, zq6q, zq04, zq92, zq9b, zq0e, zq8a, zqa2]))
    | (refine done _ (n : Int) true rfl (hany ?_ ?_)
       · rw [Bool.and_eq_true]
         exact ⟨hovr.2 (by omega), ‹tb = true›⟩
       · omega)
    | (refine ⟨_, haddi, lend_rule fun a W rep => miss ?_ ?_ a W (rep.le ?_ ?_)⟩
       · omega
       · rw [Bool.and_eq_false_iff]
         first
           | exact .inr ‹tb = false›
           | (refine .inl ?_
              rw [Bool.eq_false_iff]
              intro hh
              have := hovr.1 hh
              omega)
       · (simp only [setn, List.nil_append, List.cons_append, leF, leH_nil, leH_cons, leF_nil, lk, scp, scpL, scpO, resF, resH, resO, resV, resVL, nth, Nat.reduceBEq, Nat.reduceLT, decide_true, decide_false, List.length, List.length_cons, List.length_nil, Nat.reduceAdd, Bool.and_self, Bool.and_true, and_true, true_and, numF] <;> try simp)
         done
       · (simp only [setn, List.nil_append, List.cons_append, leF, leH_nil, leH_cons, leF_nil, lk, scp, scpL, scpO, resF, resH, resO, resV, resVL, nth, Nat.reduceBEq, Nat.reduceLT, decide_true, decide_false, List.length, List.length_cons, List.length_nil, Nat.reduceAdd, Bool.and_self, Bool.and_true, and_true, true_and, numF] <;> try simp)
         done)
    | (refine ⟨_, hadd, lend_rule fun a W rep => nextn (.inr ?_) a W (rep.le ?_ ?_)⟩
       · omega
       · (simp only [setn, List.nil_append, List.cons_append, leF, leH_nil, leH_cons, leF_nil, lk, scp, scpL, scpO, resF, resH, resO, resV, resVL, nth, Nat.reduceBEq, Nat.reduceLT, decide_true, decide_false, List.length, List.length_cons, List.length_nil, Nat.reduceAdd, Bool.and_self, Bool.and_true, and_true, true_and, numF] <;> try simp)
         done
       · (simp only [setn, List.nil_append, List.cons_append, leF, leH_nil, leH_cons, leF_nil, lk, scp, scpL, scpO, resF, resH, resO, resV, resVL, nth, Nat.reduceBEq, Nat.reduceLT, decide_true, decide_false, List.length, List.length_cons, List.length_nil, Nat.reduceAdd, Bool.and_self, Bool.and_true, and_true, true_and, numF] <;> try simp)
         done)
    | fail
end Go.Proofs.Ytnedgfkgmdoahaa
