/- The plain law of CacheSets. -/
import Derived.Test.YtimmobbginjkfaaCaInv
set_option linter.unusedSimpArgs false
set_option linter.unusedVariables false
set_option linter.unnecessarySimpa false
namespace Go.Proofs.Ytimmobbginjkfaa
open Go Go.Sx Go.Ca
def manyE (s L : Int) (l : List En) : Nat := l.countP fun x => x.line % s == L % s
theorem many_snoc (s L : Int) (l : List En) (x : En) : manyE s L (l ++ [x]) = manyE s L l + if x.line % s == L % s then 1 else 0 := by
 unfold manyE
 rw [List.countP_append, List.countP_singleton]
theorem from_same {c : Ca} (ok : CaOk c) {a b : Int} (ha : 0 ≤ a) (hb : 0 ≤ b) (h : a % (c.sets : Int) = b % (c.sets : Int)) : c.from a = c.from b := by
 unfold Ca.from
 have e : ∀ x : Int, 0 ≤ x → x.toNat % c.sets = (x % (c.sets : Int)).toNat := fun x hx => by
  obtain ⟨n, rfl⟩ := Int.eq_ofNat_of_zero_le hx
  rw [← Int.natCast_emod]
  rfl
 rw [e a ha, e b hb, h]
theorem many_le {c : Ca} (ok : CaOk c) (iv : Inv c) {L : Int} (hL : 0 ≤ L) : ∀ i, i ≤ c.n → manyE c.sets L (hlTo c i) ≤ c.ways ∧ manyE c.sets L (hlTo c i) ≤ i - c.from L
 | 0, _ => by simp [hlTo, manyE]
 | i + 1, hi => by
  have ih := many_le ok iv hL i (by omega)
  rw [hlTo_succ]
  by_cases hs : (c.sl i).st = 0
  ·rw [if_neg (by simp [hs]), List.append_nil]
   omega
  ·rw [if_pos (by simpa using hs), many_snoc]
   split
   ·rename_i h
    have h := of_decide_eq_true h
    obtain ⟨h1, h2, h3⟩ := iv.lo i hi hs
    rw [from_same ok h1 hL h] at h2 h3
    omega
   ·omega
end Go.Proofs.Ytimmobbginjkfaa
