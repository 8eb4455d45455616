/- The plain law of IsaApart: what an instruction does not name makes no difference. -/
import Derived.Test.YtpoopljpodkdcaaDoorIdSpec
set_option linter.unusedSimpArgs false
set_option linter.unusedVariables false
set_option linter.unnecessarySimpa false
namespace Go.Isa
open Go Go.Sx

def nm0 (op : Int) : Bool := op == 2 || op == 3 || op == 4 || op == 5 || op == 6 || op == 7 || op == 8 || op == 9 || op == 10 || op == 11 || op == 12 || op == 14 || op == 15 || op == 16
def nm1 (op : Int) : Bool := op == 3 || op == 4 || op == 5 || op == 6 || op == 7 || op == 8 || op == 9 || op == 10 || op == 11 || op == 12 || op == 14 || op == 15 || op == 16
def nm2 (op : Int) : Bool := op == 4 || op == 5 || op == 6 || op == 7 || op == 8 || op == 9 || op == 10
theorem has_nm {op : Int} (h : isOp op = true) : hasL op 65 = nm0 op ∧ hasL op 66 = nm1 op ∧ hasL op 67 = nm2 op := by
  rcases isOp_cases h with rfl | rfl | rfl | rfl | rfl | rfl | rfl | rfl | rfl | rfl | rfl | rfl | rfl | rfl | rfl | rfl | rfl | rfl <;> decide
theorem legal_eq (x : In) : legalB x = (isOp x.op && (!nm0 x.op || isReg x.a) && (!nm1 x.op || isReg x.b) && (!nm2 x.op || isReg x.c)) := by
  unfold legalB
  cases h : isOp x.op with
  | false => rfl
  | true => obtain ⟨h0, h1, h2⟩ := has_nm h; rw [h0, h1, h2]

def putR (f : Bool) (r x0 : List Int) (n : Int) : List Int := if f && isReg n then r.set n.toNat (rg x0 n) else r
theorem putR_len {f : Bool} {r x0 : List Int} {n : Int} : (putR f r x0 n).length = r.length := by unfold putR; split <;> simp
theorem rg_put {f : Bool} {r x0 : List Int} {n m : Int} (hr : r.length = 8) (hm : isReg m = true) (h : (f = true ∧ m = n) ∨ rg r m = rg x0 m) : rg (putR f r x0 n) m = rg x0 m := by
  have hm8 : 0 ≤ m ∧ m < 8 := by simpa [isReg] using hm
  unfold putR
  split
  · rename_i hf
    simp only [Bool.and_eq_true] at hf
    have hn8 : 0 ≤ n ∧ n < 8 := by simpa [isReg] using hf.2
    by_cases e : m = n
    · subst e
      unfold rg
      rw [List.getD_eq_getElem?_getD, show (m % 8).toNat = m.toNat by omega, List.getElem?_set_self (by omega)]
      simp only [Option.getD_some, show (m % 8).toNat = m.toNat by omega]
    · rcases h with h | h
      · exact absurd h.2 e
      · unfold rg at h ⊢
        rw [← h, List.getD_eq_getElem?_getD, List.getElem?_set_ne (by omega), ← List.getD_eq_getElem?_getD]
  · rename_i hf
    rcases h with ⟨h1, h2⟩ | h
    · subst h2; rw [h1, hm] at hf; exact absurd rfl hf
    · exact h
def rK (x : In) (x0 x1 : List Int) : Int → List Int
  | 0 => x1
  | 1 => putR (nm0 x.op) x1 x0 x.a
  | 2 => putR (nm1 x.op) (putR (nm0 x.op) x1 x0 x.a) x0 x.b
  | _ => putR (nm2 x.op) (putR (nm1 x.op) (putR (nm0 x.op) x1 x0 x.a) x0 x.b) x0 x.c

theorem doE_same {x : In} {a b c a' b' c' : Int} (h0 : nm0 x.op = true → a = a') (h1 : nm1 x.op = true → b = b') (h2 : nm2 x.op = true → c = c') (ho : isOp x.op = true) (p : Int) : doE x a b c p = doE x a' b' c' p := by
  rcases isOp_cases ho with e | e | e | e | e | e | e | e | e | e | e | e | e | e | e | e | e | e <;> rw [e] at h0 h1 h2 <;> simp [nm0, nm1, nm2] at h0 h1 h2 <;> simp [doE, e] <;> (try simp only [h0, h1, h2]) <;> (try simp only [h0, h1]) <;> (try simp only [h1]) <;> (try simp)
theorem ap_F {x : In} {x0 x1 : List Int} (h0 : x0.length = 8) (h1 : x1.length = 8) (p : Int) : doB x (rK x x0 x1 3) p = doB x x0 p := by
  unfold doB
  by_cases hl : legalB x = true ∧ 0 ≤ p ∧ p < 1024
  · rw [if_pos hl, if_pos hl]
    have hl := hl.1
    rw [legal_eq] at hl
    simp only [Bool.and_eq_true, Bool.or_eq_true, Bool.not_eq_true'] at hl
    obtain ⟨⟨⟨ho, ha⟩, hb⟩, hc⟩ := hl
    have A := fun (h : nm0 x.op = true) => ha.resolve_left (by rw [h]; simp)
    have B := fun (h : nm1 x.op = true) => hb.resolve_left (by rw [h]; simp)
    have C := fun (h : nm2 x.op = true) => hc.resolve_left (by rw [h]; simp)
    have l1 : (putR (nm0 x.op) x1 x0 x.a).length = 8 := by rw [putR_len, h1]
    have l2 : (putR (nm1 x.op) (putR (nm0 x.op) x1 x0 x.a) x0 x.b).length = 8 := by rw [putR_len, l1]
    refine doE_same (fun h => ?_) (fun h => ?_) (fun h => ?_) ho p
    · exact rg_put l2 (A h) (.inr (rg_put l1 (A h) (.inr (rg_put h1 (A h) (.inl ⟨h, rfl⟩)))))
    · exact rg_put l2 (B h) (.inr (rg_put l1 (B h) (.inl ⟨h, rfl⟩)))
    · exact rg_put l2 (C h) (.inl ⟨h, rfl⟩)
  · rw [if_neg hl, if_neg hl]
def oth (x : In) : In := ⟨x.op, if nm0 x.op then x.a else 77, if nm1 x.op then x.b else -3, if nm2 x.op then x.c else 8, x.imm⟩
theorem oth_legal (x : In) : legalB (oth x) = legalB x := by
  rw [legal_eq, legal_eq]
  simp only [oth]
  cases nm0 x.op <;> cases nm1 x.op <;> cases nm2 x.op <;> simp
theorem doE_oth {x : In} {a b c a' b' c' : Int} (h0 : nm0 x.op = true → a = a') (h1 : nm1 x.op = true → b = b') (h2 : nm2 x.op = true → c = c') (ho : isOp x.op = true) (p : Int) : doE (oth x) a b c p = doE x a' b' c' p := by
  rw [← doE_same h0 h1 h2 ho p]
  have e : ∀ y : In, y.op = x.op → y.imm = x.imm → (nm0 x.op = true → y.a = x.a) → doE y a b c p = doE x a b c p := by
    intro y e1 e2 e3
    unfold doE
    rw [e1, e2]
    rcases isOp_cases ho with e | e | e | e | e | e | e | e | e | e | e | e | e | e | e | e | e | e <;> rw [e] at e3 <;> simp [nm0] at e3 <;> simp [e] <;> exact e3
  exact e _ rfl rfl fun h => by simp [oth, h]
theorem ap_G (x : In) (x0 : List Int) (p : Int) : doB (oth x) x0 p = doB x x0 p := by
  unfold doB
  rw [oth_legal]
  by_cases hl : legalB x = true ∧ 0 ≤ p ∧ p < 1024
  · rw [if_pos hl, if_pos hl]
    have hl := hl.1
    rw [legal_eq] at hl
    simp only [Bool.and_eq_true] at hl
    exact doE_oth (fun h => by simp [oth, h]) (fun h => by simp [oth, h]) (fun h => by simp [oth, h]) hl.1.1.1 p
  · rw [if_neg hl, if_neg hl]
def adj (x : In) (e : Ef) (p : Int) : Bool := e.next == p + 1 && (e.kind != 0 && !(e.kind == 2 && x.imm == p + 1))
theorem go_H (imm p q : Int) (c : Bool) (hp : 0 ≤ p ∧ p < 1024) (hq : 0 ≤ q ∧ q < 1024) :
    (((goE imm p c).next = p + 1 ∧ (goE imm p c).kind ≠ 0 ∧ ¬ ((goE imm p c).kind = 2 ∧ imm = p + 1)) → { goE imm q c with next := (goE imm p c).next + ((goE imm q c).next - (q + 1)) } = goE imm p c) ∧
    (¬ ((goE imm p c).next = p + 1 ∧ (goE imm p c).kind ≠ 0 ∧ ¬ ((goE imm p c).kind = 2 ∧ imm = p + 1)) → goE imm p c = goE imm q c ∨ ((goE imm p c).kind = 2 ∧ (goE imm q c).kind = 2 ∧ imm = p + 1)) := by
  cases c
  · simp only [goE]
    constructor
    · intro _; simp
    · intro h; right
      simp at h; simp [h]
  · by_cases hi : imm < 0 ∨ 1024 < imm
    · have e : ∀ z, goE imm z true = Ef.zero := fun z => by simp only [goE, if_true]; rw [if_pos hi]
      rw [e, e]
      simp [Ef.zero]
    · have e : ∀ z, goE imm z true = ⟨2, imm, 0, 0, 0⟩ := fun z => by simp only [goE, if_true]; rw [if_neg hi]
      rw [e, e]
      constructor
      · rintro ⟨h1, h2, h3⟩; exact absurd ⟨rfl, h1⟩ h3
      · intro _; left; rfl
theorem doE_13 {x : In} {a b c p : Int} (e : x.op = 13) : doE x a b c p = goE x.imm p true := by simp [doE, e]
theorem ap_H (x : In) (x0 : List Int) (p q : Int) (hp : 0 ≤ p ∧ p < 1024) (hq : 0 ≤ q ∧ q < 1024) :
    (((doB x x0 p).next = p + 1 ∧ (doB x x0 p).kind ≠ 0 ∧ ¬ ((doB x x0 p).kind = 2 ∧ x.imm = p + 1)) → { doB x x0 q with next := (doB x x0 p).next + ((doB x x0 q).next - (q + 1)) } = doB x x0 p) ∧
    (¬ ((doB x x0 p).next = p + 1 ∧ (doB x x0 p).kind ≠ 0 ∧ ¬ ((doB x x0 p).kind = 2 ∧ x.imm = p + 1)) → doB x x0 p = doB x x0 q ∨ ((doB x x0 p).kind = 2 ∧ (doB x x0 q).kind = 2 ∧ x.imm = p + 1)) := by
  unfold doB
  by_cases hl : legalB x = true
  · have h1 : legalB x = true ∧ 0 ≤ p ∧ p < 1024 := ⟨hl, hp⟩
    have h2 : legalB x = true ∧ 0 ≤ q ∧ q < 1024 := ⟨hl, hq⟩
    rw [if_pos h1, if_pos h2]
    rw [legal_eq] at hl
    simp only [Bool.and_eq_true] at hl
    have ho := hl.1.1.1
    have plainE : ∀ (k r v ad : Int), k ≠ 2 → k ≠ 0 → (((⟨k, p + 1, r, v, ad⟩ : Ef).next = p + 1 ∧ (⟨k, p + 1, r, v, ad⟩ : Ef).kind ≠ 0 ∧ ¬ ((⟨k, p + 1, r, v, ad⟩ : Ef).kind = 2 ∧ x.imm = p + 1)) → { (⟨k, q + 1, r, v, ad⟩ : Ef) with next := (⟨k, p + 1, r, v, ad⟩ : Ef).next + ((⟨k, q + 1, r, v, ad⟩ : Ef).next - (q + 1)) } = ⟨k, p + 1, r, v, ad⟩) ∧
        (¬ ((⟨k, p + 1, r, v, ad⟩ : Ef).next = p + 1 ∧ (⟨k, p + 1, r, v, ad⟩ : Ef).kind ≠ 0 ∧ ¬ ((⟨k, p + 1, r, v, ad⟩ : Ef).kind = 2 ∧ x.imm = p + 1)) → (⟨k, p + 1, r, v, ad⟩ : Ef) = ⟨k, q + 1, r, v, ad⟩ ∨ ((⟨k, p + 1, r, v, ad⟩ : Ef).kind = 2 ∧ (⟨k, q + 1, r, v, ad⟩ : Ef).kind = 2 ∧ x.imm = p + 1)) := by
      intro k r v ad k2 k0
      constructor
      · intro _; simp
      · intro h; exact absurd ⟨rfl, k0, fun q => k2 q.1⟩ h
    rcases isOp_cases ho with e | e | e | e | e | e | e | e | e | e | e | e | e | e | e | e | e | e <;> first | (rw [doE_13 e, doE_13 e]; exact go_H _ _ _ _ hp hq) | (simp only [doE, e]; first | exact go_H _ _ _ _ hp hq | exact plainE _ _ _ _ (by decide) (by decide))
  · have h1 : ¬ (legalB x = true ∧ 0 ≤ p ∧ p < 1024) := fun h => hl h.1
    have h2 : ¬ (legalB x = true ∧ 0 ≤ q ∧ q < 1024) := fun h => hl h.1
    rw [if_neg h1, if_neg h2]
    simp [Ef.zero]
end Go.Isa
