/- Plain law of isa: what is written is read as it was, and what was read is written as it was. -/
import Derived.Test.YtpoopljpodkdcaaDoorIsaSpec
set_option linter.unusedSimpArgs false
set_option linter.unusedVariables false
set_option linter.unnecessarySimpa false
namespace Go.Isa
open Go Go.Sx

theorem low_signed {X : Int} (h0 : 0 ≤ X) (h1 : X < 4294967296) : low (signed X) = X := by
  unfold signed
  by_cases h : X ≥ 2147483648
  · rw [if_pos h]; unfold low; rw [if_pos (by omega)]; omega
  · rw [if_neg h]; unfold low; rw [if_neg (by omega)]
theorem signed_low {m : Int} (h0 : -2147483648 ≤ m) (h1 : m ≤ 2147483647) : signed (low m) = m := by
  unfold low
  by_cases h : m < 0
  · rw [if_pos h]; unfold signed; rw [if_pos (by omega)]; omega
  · rw [if_neg h]; unfold signed; rw [if_neg (by omega)]
theorem encL_flat : ∀ l : List In, encL l = l.flatMap encIn
  | [] => rfl
  | x :: l => by simp [encL, encL_flat l]
theorem flat_getI {α : Type} {f : α → List Int} {sz : Nat} (hf : ∀ x, (f x).length = sz) : ∀ (l : List α) {i k : Nat} (hi : i < l.length), k < sz → (l.flatMap f)[i * sz + k]? = (f l[i])[k]?
  | x :: l, 0, k, _, hk => by
    simp only [List.flatMap_cons, Nat.zero_mul, Nat.zero_add, List.getElem_cons_zero]
    rw [List.getElem?_append_left (by rw [hf]; exact hk)]
  | x :: l, i + 1, k, hi, hk => by
    simp only [List.flatMap_cons, List.getElem_cons_succ]
    rw [List.getElem?_append_right (by rw [hf, Nat.succ_mul]; omega), hf, show (i + 1) * sz + k - sz = i * sz + k by rw [Nat.succ_mul]; omega]
    exact flat_getI hf l (by simpa using hi) hk
theorem gB_enc {l : List In} {i k : Nat} (hi : i < l.length) (hk : k < 8) : gB (encL l) (i * 8 + k) = ((encIn l[i])[k]?).getD 0 := by
  unfold gB List.getD
  rw [encL_flat, flat_getI (f := encIn) (sz := 8) (fun _ => rfl) l hi hk]
theorem immF_enc {l : List In} {i : Nat} (hi : i < l.length) (h0 : -2147483648 ≤ (l[i]).imm) (h1 : (l[i]).imm ≤ 2147483647) : immF (encL l) i 4 = low (l[i]).imm := by
  have hl : 0 ≤ low (l[i]).imm ∧ low (l[i]).imm < 4294967296 := by unfold low; split <;> omega
  have e4 : gB (encL l) (i * 8 + (4 + 0)) = low (l[i]).imm / 16777216 := gB_enc hi (by omega)
  have e5 : gB (encL l) (i * 8 + (4 + 1)) = low (l[i]).imm / 65536 % 256 := gB_enc hi (by omega)
  have e6 : gB (encL l) (i * 8 + (4 + 2)) = low (l[i]).imm / 256 % 256 := gB_enc hi (by omega)
  have e7 : gB (encL l) (i * 8 + (4 + 3)) = low (l[i]).imm % 256 := gB_enc hi (by omega)
  simp only [immF]
  rw [e4, e5, e6, e7]
  omega
theorem decAt_enc {l : List In} {i : Nat} (hi : i < l.length) (h : okIn l[i]) : decAt (encL l) i = l[i] := by
  have e0 : gB (encL l) (i * 8) = (l[i]).op := gB_enc (k := 0) hi (by omega)
  have e1 : gB (encL l) (i * 8 + 1) = (l[i]).a := gB_enc hi (by omega)
  have e2 : gB (encL l) (i * 8 + 2) = (l[i]).b := gB_enc hi (by omega)
  have e3 : gB (encL l) (i * 8 + 3) = (l[i]).c := gB_enc hi (by omega)
  unfold decAt
  rw [e0, e1, e2, e3, immF_enc hi h.2.1 h.2.2, signed_low h.2.1 h.2.2]
theorem dec_enc {l : List In} (h : okL l) : decL (encL l) = l := by
  have hn : min 1024 ((encL l).length / 8) = l.length := by rw [encL_len]; have := h.1; omega
  unfold decL
  rw [hn]
  apply List.ext_getElem
  · rw [decN_len]
  · intro i h1 h2
    simp only [decN, List.getElem_map, List.getElem_range]
    exact decAt_enc h2 (h.2 _ (List.getElem_mem h2))
theorem okIn_decAt {b : List Int} (hb : ∀ n ∈ b, isB n) (i : Nat) : okIn (decAt b i) := by
  have := immF_bound hb i 4 (by omega)
  refine ⟨⟨gB_isB hb _, gB_isB hb _, gB_isB hb _, gB_isB hb _⟩, ?_, ?_⟩ <;> simp only [decAt, signed] <;> split <;> omega
theorem okL_dec {b : List Int} (hb : ∀ n ∈ b, isB n) : okL (decL b) := by
  refine ⟨by unfold decL; rw [decN_len]; omega, fun x hx => ?_⟩
  unfold decL decN at hx
  obtain ⟨i, _, rfl⟩ := List.mem_map.1 hx
  exact okIn_decAt hb i
theorem immB_imm {b : List Int} (hb : ∀ n ∈ b, isB n) (i : Nat) : immB (signed (immF b i 4)) = [gB b (i * 8 + (4 + 0)), gB b (i * 8 + (4 + 1)), gB b (i * 8 + (4 + 2)), gB b (i * 8 + (4 + 3))] := by
  have h := immF_bound hb i 4 (by omega)
  unfold immB
  rw [low_signed h.1 h.2.1]
  have h4 := gB_isB hb (i * 8 + (4 + 0)); have h5 := gB_isB hb (i * 8 + (4 + 1)); have h6 := gB_isB hb (i * 8 + (4 + 2)); have h7 := gB_isB hb (i * 8 + (4 + 3))
  simp only [isB] at h4 h5 h6 h7
  simp only [immF]
  generalize gB b (i * 8 + (4 + 0)) = x4 at *
  generalize gB b (i * 8 + (4 + 1)) = x5 at *
  generalize gB b (i * 8 + (4 + 2)) = x6 at *
  generalize gB b (i * 8 + (4 + 3)) = x7 at *
  have g4 : ((((0 * 256 + x4) * 256 + x5) * 256 + x6) * 256 + x7) / 16777216 = x4 := by omega
  have g5 : ((((0 * 256 + x4) * 256 + x5) * 256 + x6) * 256 + x7) / 65536 % 256 = x5 := by omega
  have g6 : ((((0 * 256 + x4) * 256 + x5) * 256 + x6) * 256 + x7) / 256 % 256 = x6 := by omega
  have g7 : ((((0 * 256 + x4) * 256 + x5) * 256 + x6) * 256 + x7) % 256 = x7 := by omega
  rw [g4, g5, g6, g7]
theorem take_eight (b : List Int) (j : Nat) (h : j + 8 ≤ b.length) : b.take (j + 8) = b.take j ++ [gB b j, gB b (j + 1), gB b (j + 2), gB b (j + 3), gB b (j + 4), gB b (j + 5), gB b (j + 6), gB b (j + 7)] := by
  have g : ∀ k, k < b.length → b.take (k + 1) = b.take k ++ [gB b k] := fun k hk => by
    rw [take_succ b hk]; simp [gB, List.getD, hk]
  rw [g (j + 7) (by omega), g (j + 6) (by omega), g (j + 5) (by omega), g (j + 4) (by omega), g (j + 3) (by omega), g (j + 2) (by omega), g (j + 1) (by omega), g j (by omega)]
  simp
theorem enc_decN {b : List Int} (hb : ∀ n ∈ b, isB n) : ∀ n, n * 8 ≤ b.length → encL (decN b n) = b.take (n * 8)
  | 0, _ => by simp [decN, encL]
  | n + 1, h => by
    rw [decN_succ, encL_app, enc_decN hb n (by omega)]
    have e : (n + 1) * 8 = n * 8 + 8 := by omega
    rw [e, take_eight b (n * 8) (by omega)]
    simp [encL, encIn, decAt, immB_imm hb n]
theorem enc_dec {b : List Int} (hb : ∀ n ∈ b, isB n) : encL (decL b) = b.take ((decL b).length * 8) := by
  unfold decL
  rw [decN_len]
  exact enc_decN hb _ (by omega)
end Go.Isa
