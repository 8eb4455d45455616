/- flow: which part has a place, and what comes behind it, in plain words. -/
import Derived.Test.YtlbiogokpadaoaaGreatDoorFlPlain
import Derived.Test.YtlbiogokpadaoaaGreatDoorFlDefs
import Derived.Test.YtlbiogokpadaoaaGreatDoorSxStill
import Derived.Test.YtlbiogokpadaoaaGreatDoorFlCode
import Derived.Test.YtlbiogokpadaoaaGreatDoorAsW5
import Derived.Test.YtlbiogokpadaoaaGreatDoorFlCode2
set_option linter.unusedSimpArgs false
set_option linter.unusedVariables false
set_option linter.unnecessarySimpa false
namespace Go.Isa
open Go
def atL (l : List In) (p : Nat) : Nat := posI (bgL l) ((p : Int) + 1) - 1
theorem at_part {l : List In} {p : Nat} (hp : p < l.length) : ∃ x, (bgL l)[atL l p]? = some x ∧ x ≤ p ∧ (p : Int) < toL l.length (bgL l) (atL l p) ∧ posI (bgL l) ((p : Int) + 1) = atL l p + 1 := by
 have hl : l ≠ [] := by intro e; subst e; simp at hp
 have h0 : 0 < posI (bgL l) ((p : Int) + 1) := (posI_below (bgL_up l) (bgL_zero hl)).2 (by omega)
 have h1 := posI_le (bgL l) ((p : Int) + 1)
 have e : posI (bgL l) ((p : Int) + 1) = atL l p + 1 := by unfold atL; omega
 have hlt : atL l p < (bgL l).length := by omega
 refine ⟨(bgL l)[atL l p], List.getElem?_eq_getElem hlt, ?_, ?_, e⟩
 ·have := (posI_below (bgL_up l) (x := (p : Int) + 1) (List.getElem?_eq_getElem hlt)).1 (by omega)
  omega
 ·unfold toL
  cases h : (bgL l)[atL l p + 1]? with
  | none => simp only [Option.getD_none]; omega
  | some y =>
   have := mt (posI_below (bgL_up l) (x := (p : Int) + 1) h).2 (by omega)
   simp only [Option.getD_some]; omega
theorem at_mid {l : List In} {p : Nat} {y : In} {n : Nat} {x : Int} (hy : l[p]? = some y) (hx : (bgL l)[n]? = some x) (h1 : x ≤ p) (h2 : (p : Int) + 1 < toL l.length (bgL l) n) : endsB y = false := by
 have hp : p < l.length := (List.getElem?_eq_some_iff.1 hy).1
 have hl : l ≠ [] := by intro e; subst e; simp at hp
 cases he : endsB y with
 | false => rfl
 | true =>
  exfalso
  have hr := (toL_range hx).2
  have hm : (((p + 1 : Nat) : Int)) ∈ bgL l := (bgL_mem hl _).2 (.inr ⟨p, y, hy, he, .inl ⟨by omega, rfl⟩⟩)
  have hg := posI_get (bgL_up l) hm
  have hn : n < posI (bgL l) ((p + 1 : Nat) : Int) := (posI_below (bgL_up l) hx).2 (by omega)
  unfold toL at h2
  cases hk : (bgL l)[n + 1]? with
  | none =>
   have := posI_lt (bgL_up l) hm
   have h3 : (bgL l).length ≤ n + 1 := List.getElem?_eq_none_iff.1 hk
   omega
  | some z =>
   rw [hk] at h2
   simp only [Option.getD_some] at h2
   rcases Nat.lt_or_ge (n + 1) (posI (bgL l) ((p + 1 : Nat) : Int)) with h | h
   ·have := up_get (bgL_up l) hk hg h; omega
   ·have e : posI (bgL l) ((p + 1 : Nat) : Int) = n + 1 := by omega
    rw [e, hk] at hg
    injection hg with hg
    omega
theorem do_mid {y : In} {r : List Int} {p : Nat} (he : endsB y = false) (hp : p < 1024) : (doB y r p).kind ≠ 0 ∧ (doB y r p).kind ≠ 7 ∧ (doB y r p).next = (p : Int) + 1 := by
 unfold endsB at he
 simp only [Bool.or_eq_false_iff, Bool.not_eq_false'] at he
 obtain ⟨hL, h1, hb⟩ := he
 have hop : isOp y.op = true := by
  unfold legalB at hL
  simp only [Bool.and_eq_true] at hL
  exact hL.1.1.1
 unfold doB
 rw [if_pos ⟨hL, by omega, by omega⟩]
 rcases isOp_cases hop with h | h | h | h | h | h | h | h | h | h | h | h | h | h | h | h | h | h <;> simp [h, brB] at h1 hb <;> simp [doE, h]
theorem do_goes {n : Nat} {y : In} {r : List Int} {p : Nat} (hp : p < 1024) (hpn : p < n) (h0 : (doB y r p).kind ≠ 0) (h7 : (doB y r p).kind ≠ 7) (hn : (doB y r p).next < n) : (doB y r p).next ∈ goesL n p y := by
 unfold doB at *
 split at h0
 ·rename_i hc
  rw [if_pos hc] at h7 hn ⊢
  have hop : isOp y.op = true := by
   have hL := hc.1
   unfold legalB at hL
   simp only [Bool.and_eq_true] at hL
   exact hL.1.1.1
  unfold goesL
  rw [hc.1]
  rcases isOp_cases hop with h | h | h | h | h | h | h | h | h | h | h | h | h | h | h | h | h | h <;> simp only [doE, h, goE] at h0 h7 hn ⊢ <;> simp [brB] at h0 h7 hn ⊢
  all_goals first | omega | skip
  all_goals (repeat' split at hn) <;> (repeat' split) <;> simp_all [Ef.zero] <;> omega
 ·exact absurd rfl h0
theorem at_end {l : List In} {p : Nat} {y : In} {n : Nat} {r : List Int} {x : Int} (hl : l.length ≤ 1024) (hy : l[p]? = some y) (hx : (bgL l)[n]? = some x) (h2 : (p : Int) + 1 = toL l.length (bgL l) n) (h0 : (doB y r p).kind ≠ 0) (h7 : (doB y r p).kind ≠ 7) (hn : (doB y r p).next < l.length) :
  ∃ k : Nat, (k : Int) ∈ nxL l (bgL l) (toL l.length (bgL l) n) ∧ (bgL l)[k]? = some (doB y r p).next := by
 have hp : p < l.length := (List.getElem?_eq_some_iff.1 hy).1
 have hg := do_goes (by omega) hp h0 h7 hn
 have ea : (toL l.length (bgL l) n - 1).toNat = p := by omega
 have hga : (doB y r p).next ∈ goesA l (toL l.length (bgL l) n - 1).toNat := by rw [ea]; unfold goesA; rw [hy]; exact hg
 refine ⟨posI (bgL l) (doB y r p).next, ?_, posI_get (bgL_up l) (goesA_in hx hga)⟩
 unfold nxL
 rw [upI_mem, List.mem_map]
 exact ⟨_, hga, rfl⟩
end Go.Isa
namespace Go.Proofs.YtlbiogokpadaoaaGreatDoor
open Go Go.Sx Go.Isa
set_option maxRecDepth 100000
def PartsR (l : List In) (w : World) (v : Value) (w' : World) : Prop := ∃ (A : Option Addr) (c : Nat) (ps : List PR), v = .slice A ps.length c ∧ ps.map PR.pa = partsL l ∧ World.ownsB w' w.heap.size 35 3 (.slice A ps.length c) ps.length (cellsR ps) ∧ NxAt w' ps ∧ NxNew w.heap.size ps ∧ Fresh w w'
theorem partsR_len {l : List In} {ps : List PR} (h : ps.map PR.pa = partsL l) : ps.length = (bgL l).length := by
 have := congrArg List.length h
 rw [List.length_map, partsL_len] at this; exact this
theorem parts17 (l : List In) (B : Option Addr) (bc : Nat) (w : World) (hl : l.length ≤ 1024) (hB : RowAt w B (cellsI l)) (hG : ShAt w) :
  CallsV Tryz.prog 17 [.slice B l.length bc] w fun v w' => ∃ u, v = .tuple #[u, .int .i64 0] ∧ PartsR l w u w' := by
 refine calls_go (keep := K17) (nt := 9) (svs := [.val (.slice B l.length bc)]) Tryz.func17 x17 n17 (by simp) (by simp [IsL, Is]) fun R hR => ?_
 (refine Y_go 600 ?_; dsimp only [X17, numF, Nat.reduceAdd, zq9r, zq9q, Y_k, zq4u, zq8p, zq6u, YK, zq8t, zq6q, zq9i, normF, zq6n, Nat.reduceBEq, zq6l, zq6k, zq6m, zq86, zq87, zq9y, t17n2, T17n2, zq8o, zq55, zq0r, zq50, zq04, zq92, zq9b, zq0i, zq9g, zq9s, zq6h, zq8x, YC, t17n0, T17n0, zq89, zq9x, zq9p, t17n1, T17n1, zq9j])
 refine ⟨fun h => absurd (of_decide_eq_true h) (by omega), fun _ => ?_⟩
 refine call_base (vs := [.slice B l.length bc]) rfl (R := fun W v W' => PartsR l W v W') (fun W hW => parts33 l B bc W hl (hB.keep hW.fresh') (hG.keep hW.fresh')) (fun _ _ _ h => by obtain ⟨_, _, _, _, _, _, _, _, h⟩ := h; exact h) fun W v W' hW ⟨A, c, ps, hv, h1, h2, h3, h5, h4⟩ ov => ?_
 subst hv
 have hw1 : Fresh w W' := Fresh.tr hW.fresh' h4
 have hlow := ownsB_low h2 hW.fresh'.size
 refine ⟨.val (.slice A ps.length c), by simp [Is], ?_⟩
 have hfp : fps ([] : List SO) = [] := rfl
 rw [hfp]
 (refine Y_go 600 ?_; dsimp only [zq8t, Y_k, zq4u, zq8o, zq6n, Nat.reduceBEq, zq6k, YK, zq8p, zq6q, zq9i, normF, zq6l, zq8a, zq87, zq9x])
 exact ret_rule (vs := [_, _]) r17 rfl rfl fun W2 hW2 => hR _ _ ⟨_, rfl, A, c, ps, rfl, h1, ownsB_keep hlow hW2.fresh', h3.keep hW2.fresh', h5.le hW.fresh'.size, Fresh.tr hw1 hW2.fresh'⟩
theorem begins48o (l : List In) (B : Option Addr) (bc : Nat) (W : World) (hl : l.length ≤ 1024) (hB : RowAt W B (cellsI l)) (hG : ShAt W) : CallsV Tryz.prog 48 [.slice B l.length bc] W fun v W' => World.ownsB W' W.heap.size 3 1 v (bgL l).length (isV (bgL l)) ∧ Fresh W W' := by
 refine (begins48 l B bc W hl hB hG).mono ?_
 rintro v W' ⟨A, c, zs, rfl, h1, h2, h3, h4⟩
 have e : zs = bgL l := by
  unfold bgL
  split
  ·rename_i h; exact h1 h
  ·rename_i h; exact h2 h
 subst e; exact ⟨h3, h4⟩
def atE (n : Nat) (p : Int) : Bool := decide (n ≤ 1024) && decide (0 ≤ p) && decide (p < n)
theorem at23 (l : List In) (B : Option Addr) (bc : Nat) (p : Int) (w : World) (hB : RowAt w B (cellsI l)) (hG : ShAt w) (hp : is64 p) :
  CallsV Tryz.prog 23 [.slice B l.length bc, .int .i64 p] w fun v w' => v = (if atE l.length p then .tuple #[.int .i64 (atL l p.toNat : Int), .int .i64 0] else .tuple #[.int .i64 0, .int .i64 2]) ∧ Fresh w w' := by
 refine calls_go (keep := K23) (nt := 25) (svs := [.val (.slice B l.length bc), .val (.int .i64 p)]) Tryz.func23 x23 n23 (by simp) (by simp [IsL, Is]) fun R hR => ?_
 (refine Y_go 600 ?_; dsimp only [X23, numF, Nat.reduceAdd, zq9r, zq9q, Y_k, zq4u, zq8p, zq6q, YK, zq8t, zq9i, normF, zq6n, Nat.reduceBEq, zq6l, zq6k, zq6m, zq86, zq87, zq9y, t23n2, T23n2, zq8o, zq55, zq0r, zq50, zq04, zq92, zq9b, zq0i, zq9g, Y_gk, zq6e, YS, zq6a, zq4v, zq6o, zq0b, zq89, zq9s, zq6f, YC, t23n0, T23n0, zq9x, YR, zq6c, zq9e, zq0c, zq9h, zq6h, zq8x, zq9p, t23n1, T23n1, zq9j])
 refine ⟨fun h => ?_, fun h1 => ⟨fun h => ?_, fun h2 => ⟨fun h => ?_, fun h3 => ?_⟩⟩⟩
 ·refine ret_rule (vs := [_, _]) r23 rfl rfl fun W2 hW2 => hR _ _ ⟨?_, hW2.fresh'⟩
  have : atE l.length p = false := by unfold atE; rw [decide_eq_false (by have := of_decide_eq_true h; omega)]; rfl
  rw [this]; rfl
 ·refine ret_rule (vs := [_, _]) r23 rfl rfl fun W2 hW2 => hR _ _ ⟨?_, hW2.fresh'⟩
  have : atE l.length p = false := by unfold atE; rw [decide_eq_false (p := 0 ≤ p) (by have := of_decide_eq_true h; omega)]; simp
  rw [this]; rfl
 ·refine ret_rule (vs := [_, _]) r23 rfl rfl fun W2 hW2 => hR _ _ ⟨?_, hW2.fresh'⟩
  have : atE l.length p = false := by unfold atE; rw [decide_eq_false (p := p < l.length) (by have := of_decide_eq_true h; omega)]; simp
  rw [this]; rfl
 ·have h1 := of_decide_eq_false h1
  have h2 := of_decide_eq_false h2
  have h3 := of_decide_eq_false h3
  have hl : l.length ≤ 1024 := by omega
  have e1 : atE l.length p = true := by unfold atE; simp; omega
  have hne : l ≠ [] := by intro e; subst e; simp at h3; omega
  have hb0 : 0 < (bgL l).length := bgL_pos hne
  have hbn := bgL_len l
  have hpn : (p.toNat : Int) = p := by omega
  refine call_own (t := 3) (sz := 1) (n := (bgL l).length) (xs := isV (bgL l)) rfl (fun W hW => begins48o l B bc W hl (hB.keep hW.fresh') (hG.keep hW.fresh')) fun bA bC => ?_
  simp only [putF, List.nil_append, List.length_nil]
  (refine Y_go 600 ?_; dsimp only [Y_k, zq4u, zq8o, zq6n, Nat.reduceBEq, zq6l, zq6k, YK, zq8t, zq4w, zq8p, zq6q, zq04, zq92, zq9b, zq0e, zq9j])
  refine ⟨p + 1, ArOk.to rfl (by omega) (by omega), ?_⟩
  refine call_val (vs := [.slice bA (bgL l).length bC, .int .i64 (p + 1)]) rfl (fun W hW => find47 hW (i := 0) rfl (by omega) hb0 ((bgL_up l).imp fun h => Int.le_of_lt h) (p + 1)) fun v hv => ⟨.val (.int .i64 (posI (bgL l) (p + 1) : Int)), by rw [hv]; simp [Is], ?_⟩
  (refine Y_go 600 ?_; dsimp only [zq8t, Y_k, zq4w, zq8o, zq6n, Nat.reduceBEq, zq6k, zq8p, zq6q, zq04, zq92, zq9b, zq0e, YK, zq4u, zq9i, normF, zq6l, zq8a, zq87, zq9x])
  obtain ⟨x, hx, hx1, hx2, hx3⟩ := at_part (l := l) (p := p.toNat) (by omega)
  rw [hpn] at hx3
  rw [hx3]
  have hlt : atL l p.toNat < (bgL l).length := (List.getElem?_eq_some_iff.1 hx).1
  refine ⟨(atL l p.toNat : Int), ArOk.toSub (by omega) (by omega) (by omega), ?_⟩
  exact ret_rule (vs := [_, _]) r23 rfl rfl fun W2 hW2 => hR _ _ ⟨by rw [e1]; rfl, hW2.fresh'⟩
end Go.Proofs.YtlbiogokpadaoaaGreatDoor
namespace Go.Proofs.YtlbiogokpadaoaaGreatDoor
open Go Go.Sx Go.Isa Go.Asm
set_option maxRecDepth 100000
def fewT : B := [115, 101, 116, 32, 49, 32, 48, 10, 101, 113, 32, 49, 32, 50, 32, 52, 10, 115, 101, 116, 32, 49, 32, 49, 10, 106, 117, 109, 112, 32, 49, 10, 104, 97, 108, 116]
def fewL : List In := [⟨2, 1, 0, 0, 0⟩, ⟨14, 1, 2, 0, 4⟩, ⟨2, 1, 0, 0, 1⟩, ⟨13, 0, 0, 0, 1⟩, ⟨1, 0, 0, 0, 0⟩]
theorem few_is : asmL fewT = (fewL, [], 0) := by kernel_rfl
theorem few_bg : bgL fewL = [0, 1, 2, 4] := by
 unfold bgL
 rw [if_neg (by simp [fewL])]
 exact upI_of (by kernel_rfl) (by kernel_rfl)
theorem few_parts : partsL fewL = [⟨0, 1, [1]⟩, ⟨1, 2, [2, 3]⟩, ⟨2, 4, [1]⟩, ⟨4, 5, []⟩] := by
 have n0 : nxL fewL [0, 1, 2, 4] 1 = [1] := upI_of (by kernel_rfl) (by kernel_rfl)
 have n1 : nxL fewL [0, 1, 2, 4] 2 = [2, 3] := upI_of (by kernel_rfl) (by kernel_rfl)
 have n2 : nxL fewL [0, 1, 2, 4] 4 = [1] := upI_of (by kernel_rfl) (by kernel_rfl)
 have n3 : nxL fewL [0, 1, 2, 4] 5 = [] := upI_of (by kernel_rfl) (by kernel_rfl)
 unfold partsL
 rw [few_bg]
 show [partL fewL [0, 1, 2, 4] 0, partL fewL [0, 1, 2, 4] 1, partL fewL [0, 1, 2, 4] 2, partL fewL [0, 1, 2, 4] 3] = _
 show [(⟨0, 1, nxL fewL [0, 1, 2, 4] 1⟩ : Pa), ⟨1, 2, nxL fewL [0, 1, 2, 4] 2⟩, ⟨2, 4, nxL fewL [0, 1, 2, 4] 4⟩, ⟨4, 5, nxL fewL [0, 1, 2, 4] 5⟩] = _
 rw [n0, n1, n2, n3]
theorem few32 (w : World) (hG : ShAt w) (hT : TabAt w) (hLb : LibAt w) : CallsV Tryz.prog 32 [] w fun v w' => ∃ (A : Option Addr) (c : Nat), v = .slice A fewL.length c ∧ World.ownsB w' w.heap.size 41 5 (.slice A fewL.length c) fewL.length (cellsI fewL) ∧ Fresh w w' := by
 refine calls_go (keep := K32) (nt := 10) (svs := []) Tryz.func32 x32 n32 (by simp) (by simp [IsL]) fun R hR => ?_
 (refine Y_go 600 ?_; dsimp only [X32, numF, zq9r, zq9q, Y_k, zq4u, zq8p, zq6u, YK, zq8t, zq9i, normF, zq6n, Nat.reduceBEq, zq6k, zq6l, zq6m, zq86, zq87, zq9y, t32n1, T32n1, zq9j])
 refine call_rule (vs := [.string ⟨⟨fewT⟩⟩]) rfl (R := fun W v W' => ∃ (A : Option Addr) (c : Nat), v = .tuple #[.slice A fewL.length c, .int .i64 0, .int .i64 0] ∧ World.ownsB W' W.heap.size 41 5 (.slice A fewL.length c) fewL.length (cellsI fewL) ∧ Fresh W W') (fun W hW => (assemble66 fewT W (by decide) (hG.keep hW.fresh') (hT.keep hW.fresh') (hLb.keep hW.fresh')).mono fun v w' h => by rw [few_is] at h; exact h) fun W v W' hW ⟨A, c, hv, ho, hk⟩ => ?_
 obtain ⟨A', c', e1, e2, e5, _⟩ := hW.gain ho hk
 injection e1 with e3 _ e4
 subst e3; subst e4; subst hv
 refine ⟨.tup [.own 0 0, .val (.int .i64 0), .val (.int .i64 0)], _, ?_, e2, e5, ?_⟩
 ·simp only [Is, IsL]; exact ⟨_, ⟨_, _, ⟨_, _, _, _, _, _, _, rfl, Nat.le_refl _, ⟨_, _, _, rfl⟩, fun _ => rfl⟩, ⟨_, _, rfl, ⟨_, _, rfl, rfl, rfl⟩, rfl⟩, rfl⟩, rfl⟩
 clear e5 e2 hW ho hk
 (refine Y_go 600 ?_; dsimp only [zq8t, List.nil_append, Y_k, zq4u, zq8o, zq6n, Nat.reduceBEq, zq6k, YK, zq5j, zq2f, nth, zq2e, zq6l, zq9i, normF, zq8f, zq87, zq9y, t32n0, T32n0, zq9r, zq9q, zq9x])
 exact ret_rule (vs := [.slice A fewL.length c]) r32 rfl rfl fun W hW => hR _ _ ⟨A, c, rfl, hW.owns (i := 0) rfl, hW.fresh'⟩
theorem alive16 (w : World) (hG : ShAt w) (hT : TabAt w) (hLb : LibAt w) : CallsV Tryz.prog 16 [] w fun v w' => v = .bool true ∧ Fresh w w' := by
 refine calls_go (keep := K16) (nt := 63) (svs := []) Tryz.func16 x16 n16 (by simp) (by simp [IsL]) fun R hR => ?_
 (refine Y_go 600 ?_; dsimp only [X16, numF, zq9r, zq9q, Y_k, zq4u, zq8p, zq6p, YK, zq8t, zq9i, normF, zq6n, Nat.reduceBEq, zq6k, zq6l, zq6m, zq86, zq8a, zq9y, t16n1, T16n1, zq9j])
 refine call_base (vs := []) rfl (R := fun W v W' => ∃ (A : Option Addr) (c : Nat), v = .slice A fewL.length c ∧ RowAt W' A (cellsI fewL) ∧ Fresh W W') (fun W hW => (few32 W (hG.keep hW.fresh') (hT.keep hW.fresh') (hLb.keep hW.fresh')).mono fun v w' ⟨A, c, h1, h2, h3⟩ => ⟨A, c, h1, .of_own h2 rfl, h3⟩) (fun _ _ _ h => by obtain ⟨_, _, _, _, h⟩ := h; exact h) fun W v W' hW ⟨A, c, hv, h1, h2⟩ _ => ?_
 subst hv
 have hw1 : Fresh w W' := Fresh.tr hW.fresh' h2
 refine ⟨.val (.slice A fewL.length c), by simp [Is], ?_⟩
 rw [show fps ([] : List SO) = [] from rfl]
 (refine Y_go 600 ?_; dsimp only [zq8t, zq9j])
 refine call_base (vs := [.slice A fewL.length c]) rfl (R := fun W v W' => ∃ u, v = .tuple #[u, .int .i64 0] ∧ PartsR fewL W u W') (fun W hW => parts17 fewL A c W (by decide) (h1.keep hW.fresh') ((hG.keep hw1).keep hW.fresh')) (fun _ _ _ h => by obtain ⟨_, _, _, _, _, _, _, _, _, _, h⟩ := h; exact h) fun W2 v W3 hW2 ⟨u, hv, pA, pc, ps, hu, k1, k2, k3, _, k4⟩ _ => ?_
 subst hv; subst hu
 have hw2 : Fresh w W3 := Fresh.tr (Fresh.tr hw1 hW2.fresh') k4
 have kr : RowAt W3 pA (cellsR ps) := .of_own k2 rfl
 rw [few_parts] at k1
 obtain ⟨p0, p1, p2, p3, rfl⟩ : ∃ p0 p1 p2 p3, ps = [p0, p1, p2, p3] := by
  match ps, congrArg List.length k1 with
  | [p0, p1, p2, p3], _ => exact ⟨p0, p1, p2, p3, rfl⟩
 refine ⟨.tup [.val (.slice pA 4 pc), .val (.int .i64 0)], by simp [Is, IsL], ?_⟩
 rw [show fps ([] : List SO) = [] from rfl]
 (refine Y_go 600 ?_; dsimp only [zq8t, Y_k, zq4u, zq8o, zq6n, Nat.reduceBEq, zq6k, YK, zq5j, zq2f, nth, zq2e, zq6l, zq9i, normF, zq87, zq8a, zq9y, t16n0, T16n0, zq9r, zq9q, zq50, zq8p, zq6q, zq04, zq92, zq9b, zq0i, zq9c, Y_gk, zq6d, YR, zq69, zq55, zq0r, zq4v, zq6p, zq0b, zq58, zq06, zq0w, Int.reduceToNat, Nat.reduceMul, zq5a, zq16, Nat.add_zero, zq5c, zq1p, zq1c, Nat.reduceAdd, List.nil_append, zq1b, zq18, zq1g, zq9x, YS, zq6b, zq0c])
 obtain ⟨a0, b0, c0⟩ := p0
 obtain ⟨a1, b1, c1⟩ := p1
 obtain ⟨a2, b2, c2⟩ := p2
 obtain ⟨a3, b3, c3⟩ := p3
 simp only [List.map_cons, List.map_nil, List.cons.injEq, and_true] at k1
 obtain ⟨rfl, rfl, rfl, rfl⟩ := k1
 have q3 : CellAt ⟨W3, W3.heap.size, [], 63, []⟩ pA 3 (.int .i64 1) := kr.cell rfl
 have q4 : CellAt ⟨W3, W3.heap.size, [], 63, []⟩ pA 4 (.int .i64 2) := kr.cell rfl
 have q5 : CellAt ⟨W3, W3.heap.size, [], 63, []⟩ pA 5 (.slice b1 2 c1) := kr.cell rfl
 have q11 : CellAt ⟨W3, W3.heap.size, [], 63, []⟩ pA 11 (.slice b3 0 c3) := kr.cell rfl
 have k31 := k3 ⟨⟨1, 2, [2, 3]⟩, b1, c1⟩ (by simp)
 have r0 : CellAt ⟨W3, W3.heap.size, [], 63, []⟩ b1 0 (.int .i64 2) := k31.cell rfl
 have r1 : CellAt ⟨W3, W3.heap.size, [], 63, []⟩ b1 1 (.int .i64 3) := k31.cell rfl
 have sA : pA.isSome = true := by obtain ⟨a, rfl, _⟩ := q3; rfl
 have sA1 : b1.isSome = true := by obtain ⟨a, rfl, _⟩ := r0; rfl
 have bd : (0 : Int) ≤ 1 ∧ (1 : Int) < ((4 : Nat) : Int) ∧ pA.isSome = true := ⟨by decide, by decide, sA⟩
 refine ⟨fun _ => ⟨fun _ => ⟨bd, sA, _, q3, fun _ => ⟨bd, sA, _, q4, fun _ => ⟨bd, sA, _, _, _, q5, fun _ => ⟨bd, sA, _, _, _, q5, ⟨by decide, by decide, sA1⟩, _, r0, fun _ => ⟨bd, sA, _, _, _, q5, ⟨by decide, by decide, sA1⟩, _, r1, fun _ => ⟨⟨by decide, by decide, sA⟩, sA, _, _, _, q11, ?_⟩, fun h => absurd h (by decide)⟩, fun h => absurd h (by decide)⟩, fun h => absurd h (by decide)⟩, fun h => absurd h (by decide)⟩, fun h => absurd h (by decide)⟩, fun h => absurd h (by decide)⟩, fun h => absurd h (by decide)⟩
 exact ret_rule (vs := [.bool true]) Go.Proofs.YtlbiogokpadaoaaGreatDoor.r16 rfl rfl fun W hW => hR _ _ ⟨rfl, Fresh.tr hw2 hW.fresh'⟩
end Go.Proofs.YtlbiogokpadaoaaGreatDoor
