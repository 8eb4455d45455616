/- The plain law of a number's digits: taken from behind, one at a time, they are its numeral. -/
import Derived.Lib.ItoaNum
set_option linter.unusedSimpArgs false
set_option linter.unusedVariables false
set_option linter.unnecessarySimpa false
namespace Go.Dig
open Go

def dd (u : Nat) : List UInt8 := if u = 0 then [] else Lib.decDigits u
structure At (n rest : Int) (s : List UInt8) (k : Nat) : Prop where
  said : Lib.decDigits n.natAbs = (if k = 0 then Lib.decDigits rest.natAbs else dd rest.natAbs) ++ s
  lt : rest.natAbs < 10 ^ (20 - k)
  len : s.length = k
  k20 : k ≤ 20
  fits : rest.natAbs ≤ 9223372036854775808
  sign : rest = 0 ∨ (rest < 0 ↔ n < 0)
def last (rest : Int) : Int := if rest.tmod 10 < 0 then - rest.tmod 10 else rest.tmod 10
theorem last_eq (rest : Int) : last rest = ((rest.natAbs % 10 : Nat) : Int) := by
  unfold last
  have h := Int.natAbs_tmod rest 10
  have h10 : (10 : Int).natAbs = 10 := rfl
  rw [h10] at h
  split <;> omega
theorem natAbs_tdiv10 (rest : Int) : (rest.tdiv 10).natAbs = rest.natAbs / 10 := Int.natAbs_tdiv rest 10
theorem dec_last (u : Nat) : Lib.decDigits u = dd (u / 10) ++ [UInt8.ofNat (48 + u % 10)] := by
  rw [Lib.decDigits]
  split
  · rename_i h
    have e : u / 10 = 0 := by omega
    rw [e, dd, if_pos rfl, Nat.mod_eq_of_lt h]; rfl
  · rename_i h
    rw [dd, if_neg (by omega)]
theorem start {n : Int} (h0 : -9223372036854775808 ≤ n) (h1 : n ≤ 9223372036854775807) : At n n [] 0 :=
  ⟨by simp, by rw [show 10 ^ (20 - 0) = 100000000000000000000 by decide]; omega, rfl, by omega, by omega, .inr Iff.rfl⟩
theorem step {n rest : Int} {s : List UInt8} {k : Nat} (h : At n rest s k) (hk : k < 20) (hg : k = 0 ∨ rest ≠ 0) :
    At n (rest.tdiv 10) (UInt8.ofNat (48 + rest.natAbs % 10) :: s) (k + 1) := by
  refine ⟨?_, ?_, by simp [h.len], by omega, ?_, ?_⟩
  · rw [if_neg (by omega), natAbs_tdiv10, h.said]
    have e : (if k = 0 then Lib.decDigits rest.natAbs else dd rest.natAbs) = Lib.decDigits rest.natAbs := by
      split
      · rfl
      · rw [dd, if_neg (by omega)]
    rw [e, dec_last, List.append_assoc]; rfl
  · rw [natAbs_tdiv10]
    have := h.lt
    rw [show 20 - k = 20 - (k + 1) + 1 by omega, Nat.pow_succ] at this
    omega
  · rw [natAbs_tdiv10]; have := h.fits; omega
  · have e := natAbs_tdiv10 rest
    by_cases hz : rest.tdiv 10 = 0
    · exact .inl hz
    · right
      rcases h.sign with hs | hs
      · subst hs; simp at hz
      · rw [← hs]
        constructor
        · intro hlt
          by_cases hr : rest < 0
          · exact hr
          · have := Int.tdiv_nonneg (a := rest) (b := 10) (by omega) (by decide); omega
        · intro hlt
          have : rest.tdiv 10 ≤ 0 := by
            have hs : Int.sign 10 = 1 := rfl
            rw [Int.tdiv_eq_ediv, hs]; split <;> omega
          omega
theorem stop {n rest : Int} {s : List UInt8} {k : Nat} (h : At n rest s k) (hg : ¬ (k < 20 ∧ (k = 0 ∨ rest ≠ 0))) : Lib.decDigits n.natAbs = s := by
  have hr : rest = 0 := by
    by_cases hk : k < 20
    · by_cases hz : rest = 0
      · exact hz
      · exact absurd ⟨hk, .inr hz⟩ hg
    · have hl := h.lt
      have e : k = 20 := by have := h.k20; omega
      subst e
      simp at hl
      exact hl
  have hk : k ≠ 0 := fun hk => hg ⟨by omega, .inl hk⟩
  rw [h.said, if_neg hk, hr, dd, if_pos (by simp)]; rfl
theorem itoa_eq (n : Int) : Lib.itoa n = if n < 0 then 45 :: Lib.decDigits n.natAbs else Lib.decDigits n.natAbs := by
  unfold Lib.itoa
  split
  · rfl
  · rw [show n.toNat = n.natAbs by omega]
end Go.Dig
