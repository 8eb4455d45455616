/- The plain law of numerals and words: a number's numeral says it; a line's words are what was put between blanks. -/
import Derived.Lib.ItoaNum
import Derived.Lib.AtoiAllCases
import Derived.Lib.Split
import Derived.Lib.CountLaws
set_option linter.unusedSimpArgs false
set_option linter.unusedVariables false
set_option linter.unnecessarySimpa false
namespace Go.Il
open Go Go.Lib

theorem pu_app : ∀ (l r : List UInt8) (acc a : Nat), parseUint10 acc l = .ok a → parseUint10 acc (l ++ r) = parseUint10 a r
  | [], r, acc, a, h => by
    simp only [parseUint10] at h
    injection h with h; subst h; rfl
  | c :: l, r, acc, a, h => by
    rw [List.cons_append]
    simp only [parseUint10] at h ⊢
    split at h
    · rename_i h1
      rw [if_pos h1]
      split at h
      · cases h
      · rename_i h2
        rw [if_neg h2]
        split at h
        · cases h
        · rename_i h3
          rw [if_neg h3]
          exact pu_app l r _ a h
    · cases h
theorem pu_one (acc d : Nat) (hd : d < 10) (h : acc * 10 + d < 18446744073709551616) : parseUint10 acc [UInt8.ofNat (48 + d)] = .ok (acc * 10 + d) := by
  have e : (UInt8.ofNat (48 + d)).toNat = 48 + d := by rw [UInt8.toNat_ofNat']; omega
  simp only [parseUint10, e]
  rw [if_pos (by omega), if_neg (by omega), if_neg (by omega), show 48 + d - 48 = d by omega]
theorem pu_dec (u : Nat) (h : u < 18446744073709551616) : parseUint10 0 (decDigits u) = .ok u := by
  rw [decDigits]
  split
  · rename_i h1
    have := pu_one 0 u h1 (by omega)
    simpa using this
  · rename_i h1
    rw [pu_app _ _ _ _ (pu_dec (u / 10) (by omega)), pu_one _ _ (by omega) (by omega)]
    congr 1; omega
termination_by u
decreasing_by omega
theorem dec_digit (u : Nat) : ∀ c ∈ decDigits u, 48 ≤ c.toNat ∧ c.toNat ≤ 57 := by
  rw [decDigits]
  split
  · rename_i h1
    intro c hc
    rw [List.mem_singleton.1 hc, UInt8.toNat_ofNat']; omega
  · intro c hc
    rcases List.mem_append.1 hc with hc | hc
    · exact dec_digit (u / 10) c hc
    · rw [List.mem_singleton.1 hc, UInt8.toNat_ofNat']; omega
termination_by u
decreasing_by omega
theorem dec_ne (u : Nat) : decDigits u ≠ [] := by
  rw [decDigits]; split <;> simp
theorem mag_dec (u : Nat) (h : u < 18446744073709551616) : parseMag (decDigits u) = .ok u := by
  unfold parseMag; rw [if_neg (dec_ne u)]; exact pu_dec u h
theorem atoi_itoa {n : Int} (h0 : -9223372036854775808 ≤ n) (h1 : n ≤ 9223372036854775807) : atoiAll (itoa n) = .ok n := by
  unfold itoa
  split
  · rw [atoiAll_minus, mag_dec _ (by omega)]
    show (if 9223372036854775808 < n.natAbs then NumEnd.range else NumEnd.ok (-(n.natAbs : Int))) = _
    rw [if_neg (by omega)]
    congr 1; omega
  · cases e : decDigits n.toNat with
    | nil => exact absurd e (dec_ne _)
    | cons c r =>
      have hd := dec_digit n.toNat c (by rw [e]; simp)
      rw [atoiAll_plain c r (by omega) (by omega), ← e, mag_dec _ (by omega)]
      show (if 9223372036854775808 ≤ n.toNat then NumEnd.range else NumEnd.ok (n.toNat : Int)) = _
      rw [if_neg (by omega)]
      congr 1; omega
theorem itoa_no32 (n : Int) : ∀ c ∈ itoa n, c ≠ 32 := by
  intro c hc e
  subst e
  unfold itoa at hc
  split at hc
  · rcases List.mem_cons.1 hc with hc | hc
    · cases hc
    · have := (dec_digit _ _ hc).1
      exact absurd this (by decide)
  · have := (dec_digit _ _ hc).1
    exact absurd this (by decide)

def sp : ByteArray := ⟨⟨[32]⟩⟩
def jn (w : List UInt8) (ps : List (List UInt8)) : List UInt8 := w ++ ps.flatMap fun p => 32 :: p
def no32 (w : List UInt8) : Prop := ∀ c ∈ w, c ≠ 32
theorem ib_none : ∀ {w : List UInt8}, no32 w → indexByte w 32 = -1
  | [], _ => rfl
  | b :: l, h => by
    unfold indexByte
    rw [if_neg (by simpa using h b (by simp)), ib_none (fun c hc => h c (by simp [hc]))]; rfl
theorem ib_at : ∀ {w : List UInt8} (r : List UInt8), no32 w → indexByte (w ++ 32 :: r) 32 = w.length
  | [], r, _ => by simp [indexByte]
  | b :: l, r, h => by
    rw [List.cons_append]
    unfold indexByte
    rw [if_neg (by simpa using h b (by simp)), ib_at r (fun c hc => h c (by simp [hc])), if_neg (by simp)]
    simp
theorem idx_none {w : List UInt8} (h : no32 w) : indexB ⟨⟨w⟩⟩ sp = -1 := by
  show index w [32] = -1
  rw [index_one, ib_none h]
theorem idx_at {w : List UInt8} (r : List UInt8) (h : no32 w) : indexB ⟨⟨w ++ 32 :: r⟩⟩ sp = w.length := by
  show index (w ++ 32 :: r) [32] = _
  rw [index_one, ib_at r h]
theorem ba_eq {a b : ByteArray} (h : a.data.toList = b.data.toList) : a = b := by
  cases a; cases b; congr 1; exact Array.toList_inj.1 h
theorem ext_rest (w r : List UInt8) : (⟨⟨w ++ 32 :: r⟩⟩ : ByteArray).extract (w.length + sp.size) (⟨⟨w ++ 32 :: r⟩⟩ : ByteArray).size = ⟨⟨r⟩⟩ := by
  apply ba_eq
  rw [extract_to_end]
  show (w ++ 32 :: r).drop (w.length + 1) = r
  rw [List.drop_append]; simp
theorem ext_head (w r : List UInt8) : (⟨⟨w ++ 32 :: r⟩⟩ : ByteArray).extract 0 (w.length + 0) = ⟨⟨w⟩⟩ := by
  apply ba_eq
  rw [extract_data]
  show ((w ++ 32 :: r).drop 0).take (w.length + 0 - 0) = w
  simp
theorem jn_cons (w p : List UInt8) (ps : List (List UInt8)) : jn w (p :: ps) = w ++ 32 :: jn p ps := by simp [jn]
theorem split_jn : ∀ (ps : List (List UInt8)) (w : List UInt8), no32 w → (∀ p ∈ ps, no32 p) → ∀ k, ps.length ≤ k → splitB sp 0 k ⟨⟨jn w ps⟩⟩ = (w :: ps).map fun p => ⟨⟨p⟩⟩
  | [], w, hw, _, k, _ => by
    have : jn w [] = w := by simp [jn]
    rw [this, splitB_miss _ _ _ _ (idx_none hw)]; rfl
  | p :: ps, w, hw, hp, k + 1, hk => by
    rw [jn_cons, splitB_hit sp 0 k _ w.length (idx_at _ hw), ext_rest, ext_head, split_jn ps p (hp p (by simp)) (fun q hq => hp q (by simp [hq])) k (by simp at hk; omega)]
    rfl
theorem count_jn : ∀ (ps : List (List UInt8)) (w : List UInt8), no32 w → (∀ p ∈ ps, no32 p) → countB ⟨⟨jn w ps⟩⟩ sp = ps.length
  | [], w, hw, _ => by
    have : jn w [] = w := by simp [jn]
    rw [this, countB_miss _ _ (idx_none hw)]; rfl
  | p :: ps, w, hw, hp => by
    rw [jn_cons, countB_hit _ sp w.length (by decide) (idx_at _ hw), ext_rest, count_jn ps p (hp p (by simp)) (fun q hq => hp q (by simp [hq]))]
    simp; omega
theorem words_jn (ps : List (List UInt8)) (w : List UInt8) (hw : no32 w) (hp : ∀ p ∈ ps, no32 p) : splitB sp 0 (countB ⟨⟨jn w ps⟩⟩ sp) ⟨⟨jn w ps⟩⟩ = (w :: ps).map fun p => ⟨⟨p⟩⟩ := by
  rw [count_jn ps w hw hp]; exact split_jn ps w hw hp _ (Nat.le_refl _)
end Go.Il
