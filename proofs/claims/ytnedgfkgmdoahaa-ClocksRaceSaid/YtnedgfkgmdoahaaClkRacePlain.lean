/- The plain law of ClocksRace: one synchronization more makes no new races. -/
import Derived.Test.YtnedgfkgmdoahaaClkGuard
set_option linter.unusedSimpArgs false
set_option linter.unusedVariables false
set_option linter.unnecessarySimpa false
namespace Go.Clk
open Go Go.Sx Go.Proofs.Ytnedgfkgmdoahaa

theorem mem_races {l : List Sy} {i k : Nat} : (i, k) ∈ racesL l ↔ i < k ∧ k < l.length ∧ raceB l i k = true := by
  unfold racesL racesTo rowR
  simp only [List.mem_flatMap, List.mem_range, List.mem_map, List.mem_filter, Bool.and_eq_true, decide_eq_true_eq, Prod.mk.injEq]
  constructor
  · rintro ⟨a, _, b, ⟨h1, h2, h3⟩, rfl, rfl⟩
    exact ⟨h2, h1, h3⟩
  · rintro ⟨h1, h2, h3⟩
    exact ⟨i, by omega, k, ⟨h2, h1, h3⟩, rfl, rfl⟩
theorem races_nodup (l : List Sy) : (racesL l).Nodup := by
  unfold racesL racesTo List.Nodup
  rw [List.pairwise_flatMap]
  refine ⟨fun i _ => ?_, ?_⟩
  · unfold rowR
    rw [List.pairwise_map]
    refine List.Pairwise.imp ?_ (List.Pairwise.filter _ (List.nodup_range (n := l.length)))
    intro a b h q
    injection q with _ q; exact h q
  · refine List.Pairwise.imp ?_ (List.nodup_range (n := l.length))
    intro a b h x hx y hy q
    unfold rowR at hx hy
    obtain ⟨_, _, rfl⟩ := List.mem_map.1 hx
    obtain ⟨_, _, rfl⟩ := List.mem_map.1 hy
    injection q with q _; exact h q
theorem nodup_len {α : Type} [DecidableEq α] : ∀ (l m : List α), l.Nodup → (∀ x ∈ l, x ∈ m) → l.length ≤ m.length
  | [], m, _, _ => Nat.zero_le _
  | a :: l, m, hn, hs => by
    have hn' := List.nodup_cons.1 hn
    have ha := hs a (by simp)
    have := nodup_len l (m.erase a) hn'.2 fun x hx => (List.mem_erase_of_ne (fun e => by subst e; exact hn'.1 hx)).2 (hs x (by simp [hx]))
    rw [List.length_erase_of_mem ha] at this
    have : 0 < m.length := List.length_pos_of_mem ha
    simp; omega

def unskip (n j : Nat) : Nat := if n ≤ j then j - 1 else j
theorem skip_unskip {n j : Nat} (h : j ≠ n) : skip n (unskip n j) = j := by
  unfold skip unskip
  split <;> split <;> omega
theorem ins_len (l : List Sy) (n : Nat) (x : Sy) (h : n ≤ l.length) : (ins l n x).length = l.length + 1 := by
  simp [ins]; omega
theorem ins_at (l : List Sy) (n : Nat) (x : Sy) (h : n ≤ l.length) : at' (ins l n x) n = x := by
  unfold at' ins
  rw [List.getD_eq_getElem?_getD, List.append_assoc, List.getElem?_append_right (by simp; omega)]
  have : n - (List.take n l).length = 0 := by simp; omega
  rw [this]; rfl
theorem ins_ok {l : List Sy} {n : Nat} {x : Sy} (ho : okLs l) (hx : okS x) (hl : l.length < 400) (hn : n ≤ l.length) : okLs (ins l n x) := by
  refine ⟨by rw [ins_len l n x hn]; omega, fun y hy => ?_⟩
  unfold ins at hy
  rcases List.mem_append.1 hy with hy | hy
  · rcases List.mem_append.1 hy with hy | hy
    · exact ho.2 y (List.mem_of_mem_take hy)
    · simp at hy; subst hy; exact hx
  · exact ho.2 y (List.mem_of_mem_drop hy)
theorem race_parts {l : List Sy} {i k : Nat} (h : raceB l i k = true) : (at' l i).kind ≤ 2 ∧ (at' l k).kind ≤ 2 ∧ (at' l i).addr = (at' l k).addr ∧ (at' l i).core ≠ (at' l k).core ∧ ¬ ((at' l i).kind = 1 ∧ (at' l k).kind = 1) ∧ ahB (clks l l.length) i k = false := by
  simp only [raceB, Bool.and_eq_true, decide_eq_true_eq, Bool.not_eq_true', beq_eq_false_iff_ne, beq_iff_eq, Bool.and_eq_false_iff] at h
  obtain ⟨⟨⟨⟨⟨h1, h2⟩, h3⟩, h4⟩, h5⟩, h6⟩ := h
  exact ⟨h1, h2, h3, h4, by rintro ⟨a, b⟩; rcases h5 with h5 | h5 <;> exact h5 (by assumption), h6⟩
theorem race_ne {l : List Sy} {n : Nat} {x : Sy} (hn : n ≤ l.length) (hx : 3 ≤ x.kind) {i k : Nat} (h : raceB (ins l n x) i k = true) : i ≠ n ∧ k ≠ n := by
  obtain ⟨h1, h2, _⟩ := race_parts h
  constructor
  · intro e; subst e; rw [ins_at l i x hn] at h1; omega
  · intro e; subst e; rw [ins_at l k x hn] at h2; omega
theorem race_back {l : List Sy} {n : Nat} {x : Sy} (ho : okLs l) (hi : okLs (ins l n x)) (hn : n ≤ l.length) (hx : 3 ≤ x.kind) {i k : Nat} (h : (i, k) ∈ racesL (ins l n x)) : (unskip n i, unskip n k) ∈ racesL l := by
  obtain ⟨h1, h2, h3⟩ := mem_races.1 h
  obtain ⟨n1, n2⟩ := race_ne hn hx h3
  obtain ⟨p1, p2, p3, p4, p5, p6⟩ := race_parts h3
  rw [ins_len l n x hn] at h2
  have e1 := skip_unskip n1
  have e2 := skip_unskip n2
  have hlt : unskip n i < unskip n k := by unfold unskip; split <;> split <;> omega
  have hk : unskip n k < l.length := by unfold unskip; split <;> omega
  have a1 := at_ins l n x hn (unskip n i)
  have a2 := at_ins l n x hn (unskip n k)
  rw [e1] at a1; rw [e2] at a2
  rw [a1] at p1 p3 p4 p5; rw [a2] at p2 p3 p4 p5
  refine mem_races.2 ⟨hlt, hk, ?_⟩
  have hah : ahB (clks l l.length) (unskip n i) (unskip n k) = false := by
    cases hq : ahB (clks l l.length) (unskip n i) (unskip n k) with
    | false => rfl
    | true =>
      have hb := ((ahB_eq ho (by omega) hk).1 hq).ins (x := x) hn
      rw [e1, e2] at hb
      have := (ahB_eq hi (by rw [ins_len l n x hn]; omega) (by rw [ins_len l n x hn]; omega)).2 hb
      rw [p6] at this; cases this
  simp only [raceB, p3, hah]
  simp [p1, p2, p4]
  exact Classical.not_and_iff_not_or_not.1 p5
theorem race_len {l : List Sy} {n : Nat} {x : Sy} (ho : okLs l) (hi : okLs (ins l n x)) (hn : n ≤ l.length) (hx : 3 ≤ x.kind) : (racesL (ins l n x)).length ≤ (racesL l).length := by
  have h := nodup_len ((racesL (ins l n x)).map fun p => (unskip n p.1, unskip n p.2)) (racesL l) ?_ ?_
  · rwa [List.length_map] at h
  · unfold List.Nodup
    rw [List.pairwise_map]
    refine List.Pairwise.imp_of_mem ?_ (races_nodup (ins l n x))
    rintro ⟨a, b⟩ ⟨c, d⟩ h1 h2 hne q
    obtain ⟨_, _, r1⟩ := mem_races.1 h1
    obtain ⟨_, _, r2⟩ := mem_races.1 h2
    obtain ⟨n1, n2⟩ := race_ne hn hx r1
    obtain ⟨m1, m2⟩ := race_ne hn hx r2
    injection q with q1 q2
    apply hne
    have e1 := skip_unskip n1; have e2 := skip_unskip n2; have e3 := skip_unskip m1; have e4 := skip_unskip m2
    have q1 : unskip n a = unskip n c := q1
    have q2 : unskip n b = unskip n d := q2
    rw [q1, e3] at e1; rw [q2, e4] at e2
    rw [e1, e2]
  · intro p hp
    obtain ⟨⟨a, b⟩, h1, rfl⟩ := List.mem_map.1 hp
    exact race_back ho hi hn hx h1
end Go.Clk
