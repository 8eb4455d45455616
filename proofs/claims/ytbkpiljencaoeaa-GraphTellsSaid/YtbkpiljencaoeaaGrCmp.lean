/- slices.Compact at numbers. -/
import Derived.Test.YtbkpiljencaoeaaGrPlain
import Derived.Test.YtbkpiljencaoeaaSxStill
import Derived.Test.YtbkpiljencaoeaaSxGhost
import Derived.Test.YtbkpiljencaoeaaGrCode
set_option linter.unusedSimpArgs false
set_option linter.unusedVariables false
set_option linter.unnecessarySimpa false
namespace Go.Proofs.Ytbkpiljencaoeaa
open Go Go.Sx Go.Gr
set_option maxRecDepth 100000
def AtI (cur : List Value) (b : Nat) (l : List Int) : Prop := ∀ j x, l[j]? = some x → cur[b + j * 1]? = some (.int .i64 x)
theorem set1_get {cu : List Value} {a : Nat} {n : Value} (h : a + 1 ≤ cu.length) (j : Nat) : (setn cu a n)[j]? = if j = a then some n else cu[j]? := by
 rw [setn_eq, List.getElem?_set]
 by_cases h1 : j = a
 ·subst h1; simp; omega
 ·rw [if_neg (fun e => h1 e.symm), if_neg h1]
theorem AtI.snoc {cu : List Value} {b : Nat} {l : List Int} {v : Int} (h : AtI cu b l) (hl : b + l.length * 1 + 1 ≤ cu.length) : AtI (setn cu (b + l.length * 1) (.int .i64 v)) b (l ++ [v]) := by
 intro j z hj
 rw [set1_get hl]
 rcases Nat.lt_trichotomy j l.length with hjl | hjl | hjl
 ·rw [List.getElem?_append_left hjl] at hj
  rw [if_neg (by omega)]
  exact h j z hj
 ·subst hjl
  simp at hj
  subst hj
  rw [if_pos rfl]
 ·rw [List.getElem?_eq_none (by simp; omega)] at hj
  cases hj
theorem opsI_nil {C : Cx} {E : Env} {k : List KI} {s : SS} (h : G C E k s) : G C E (.ops [] :: k) s := by
 intro a W rep ops ol hol
 have : ol = [] := by
  cases ol with
  | nil => rfl
  | cons x l => simp only [cmpL] at hol; split at hol <;> simp at hol
 subst this
 exact h a W rep
structure CI where
 k : Nat
 k2 : Nat
 cur : List Value
theorem AtI.take {cur : List Value} {b : Nat} {l : List Int} (h : AtI cur b l) : (cur.drop b).take (l.length * 1) = isV l := by
 apply List.ext_getElem?
 intro t
 by_cases ht : t < l.length * 1
 ·rw [List.getElem?_take, if_pos ht, List.getElem?_drop]
  have hx : l[t]? = some l[t] := List.getElem?_eq_getElem (by omega)
  have h1 := h _ _ hx
  rw [Nat.mul_one] at h1
  rw [h1, isV_get _ _ _ hx]
 ·rw [List.getElem?_eq_none (by simp; omega), List.getElem?_eq_none (by rw [isV_len]; omega)]
end Go.Proofs.Ytbkpiljencaoeaa
