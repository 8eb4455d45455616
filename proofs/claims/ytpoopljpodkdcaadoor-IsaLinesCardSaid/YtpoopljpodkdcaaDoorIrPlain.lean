/- The plain law of words, taken byte by byte. -/
import Derived.Test.YtpoopljpodkdcaaDoorIlPlain
set_option linter.unusedSimpArgs false
set_option linter.unusedVariables false
set_option linter.unnecessarySimpa false
namespace Go.Il
open Go Go.Lib

def spl (acc : List UInt8) : List UInt8 → List (List UInt8)
  | [] => [acc]
  | c :: r => if c = 32 then acc :: spl [] r else spl (acc ++ [c]) r
theorem spl_jn : ∀ (s acc : List UInt8), no32 acc → ∃ w ps, acc ++ s = jn w ps ∧ spl acc s = w :: ps ∧ no32 w ∧ ∀ p ∈ ps, no32 p
  | [], acc, h => ⟨acc, [], by simp [jn], rfl, h, by simp⟩
  | c :: r, acc, h => by
    by_cases hc : c = 32
    · subst hc
      obtain ⟨w, ps, h1, h2, h3, h4⟩ := spl_jn r [] (by intro c hc; simp at hc)
      refine ⟨acc, w :: ps, ?_, ?_, h, ?_⟩
      · rw [jn_cons, ← h1]; rfl
      · rw [spl, if_pos rfl, h2]
      · intro p hp
        rcases List.mem_cons.1 hp with rfl | hp
        · exact h3
        · exact h4 p hp
    · obtain ⟨w, ps, h1, h2, h3, h4⟩ := spl_jn r (acc ++ [c]) (by
        intro d hd
        rcases List.mem_append.1 hd with hd | hd
        · exact h d hd
        · rw [List.mem_singleton.1 hd]; exact hc)
      refine ⟨w, ps, ?_, ?_, h3, h4⟩
      · rw [← h1]; simp
      · rw [spl, if_neg hc, h2]
theorem split_spl (s : List UInt8) : splitB sp 0 (countB ⟨⟨s⟩⟩ sp) ⟨⟨s⟩⟩ = (spl [] s).map fun p => ⟨⟨p⟩⟩ := by
  obtain ⟨w, ps, h1, h2, h3, h4⟩ := spl_jn s [] (by intro c hc; simp at hc)
  rw [List.nil_append] at h1
  rw [h2, h1, words_jn ps w h3 h4]
theorem pu_ge : ∀ (l : List UInt8) (acc u : Nat), parseUint10 acc l = .ok u → acc ≤ u
  | [], acc, u, h => by simp only [parseUint10] at h; injection h with h; omega
  | c :: r, acc, u, h => by
    simp only [parseUint10] at h
    split at h
    · split at h
      · cases h
      · split at h
        · cases h
        · have := pu_ge r _ u h; omega
    · cases h
theorem pu_step {c : UInt8} {r : List UInt8} {acc u : Nat} (h : parseUint10 acc (c :: r) = .ok u) : 48 ≤ c.toNat ∧ c.toNat ≤ 57 ∧ parseUint10 (acc * 10 + (c.toNat - 48)) r = .ok u ∧ acc * 10 + (c.toNat - 48) ≤ u := by
  simp only [parseUint10] at h
  split at h
  · rename_i hd
    split at h
    · cases h
    · split at h
      · cases h
      · exact ⟨hd.1, hd.2, h, pu_ge r _ u h⟩
  · cases h
theorem head_neg {m : Int} {s : List UInt8} (h : itoa m = s) : (s.head? = some 45 ↔ m < 0) ∧ s ≠ [] := by
  subst h
  unfold itoa
  split
  · rename_i hm; exact ⟨by simp [hm], by simp⟩
  · rename_i hm
    refine ⟨⟨fun hh => ?_, fun hh => absurd hh hm⟩, dec_ne _⟩
    cases e : decDigits m.toNat with
    | nil => exact absurd e (dec_ne _)
    | cons c r =>
      have hd := dec_digit m.toNat c (by rw [e]; simp)
      rw [e] at hh; simp at hh; subst hh
      exact absurd hd.1 (by decide)
theorem start_neg {m : Int} {s : List UInt8} (h0 : -9223372036854775808 ≤ m) (h1 : m ≤ 9223372036854775807) (h : itoa m = s) (hs : s.head? = some 45) : parseUint10 0 (s.drop 1) = .ok m.natAbs := by
  have hm := (head_neg h).1.1 hs
  subst h
  unfold itoa
  rw [if_pos hm]
  exact pu_dec _ (by omega)
theorem start_pos {m : Int} {s : List UInt8} (h0 : -9223372036854775808 ≤ m) (h1 : m ≤ 9223372036854775807) (h : itoa m = s) (hs : s.head? ≠ some 45) : parseUint10 0 s = .ok m.natAbs := by
  have hm : ¬ m < 0 := fun k => hs ((head_neg h).1.2 k)
  subst h
  unfold itoa
  rw [if_neg hm, show m.toNat = m.natAbs by omega]
  exact pu_dec _ (by omega)
end Go.Il
