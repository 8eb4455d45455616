/- graph.made (1): the map and its family of slices; the second loop, which puts them in order. -/
import Derived.Test.YtbkpiljencaoeaaGrCmp
import Derived.Test.YtbkpiljencaoeaaGrPlain
import Derived.Test.YtbkpiljencaoeaaGrSrt
import Derived.Test.YtbkpiljencaoeaaSxGhost
import Derived.Test.YtbkpiljencaoeaaGrCode
set_option linter.unusedSimpArgs false
set_option linter.unusedVariables false
set_option linter.unnecessarySimpa false
namespace Go.Proofs.Ytbkpiljencaoeaa
open Go Go.Sx Go.Gr
set_option maxRecDepth 100000
structure NHd where
 A : Option Addr
 c : Nat
deriving Inhabited
def edV (e : Ed) : List Value := [.int .i64 e.1, .int .i64 e.2]
def cellsD (l : List Ed) : List Value := l.flatMap edV
theorem cellsD_len (l : List Ed) : (cellsD l).length = l.length * 2 := flat_len (f := edV) (sz := 2) (fun _ => rfl) l
theorem cellsD_get (l : List Ed) {i k : Nat} (hi : i < l.length) (hk : k < 2) : (cellsD l)[i * 2 + k]? = (edV l[i])[k]? := flat_get (f := edV) (sz := 2) (fun _ => rfl) l hi hk
mutual
theorem scp_grow {m m' : Nat} (h : m ≤ m') : ∀ (s : SV), scp m s = true → scp m' s = true
 | .unk, _ => rfl
 | .val _, _ => rfl
 | .opq _ _, _ => rfl
 | .bt, _ => rfl
 | .bf, _ => rfl
 | .ptr i off, k => by simp only [scp, decide_eq_true_eq] at k ⊢; omega
 | .adr A off, _ => rfl
 | .slc i off n c, k => by simp only [scp, decide_eq_true_eq] at k ⊢; omega
 | .own i ver, k => by simp only [scp, decide_eq_true_eq] at k ⊢; omega
 | .oad i ver off, k => by simp only [scp, decide_eq_true_eq] at k ⊢; omega
 | .mp i, k => by simp only [scp, decide_eq_true_eq] at k ⊢; omega
 | .agg l, k => by simp only [scp] at k ⊢; exact scpL_grow h l k
 | .tup l, k => by simp only [scp] at k ⊢; exact scpL_grow h l k
 | .fn f a b, k => by
  simp only [scp, Bool.and_eq_true] at k ⊢
  exact ⟨scpL_grow h a k.1, scpL_grow h b k.2⟩
theorem scpL_grow {m m' : Nat} (h : m ≤ m') : ∀ (l : List SV), scpL m l = true → scpL m' l = true
 | [], _ => rfl
 | s :: l, k => by
  simp only [scpL, Bool.and_eq_true] at k ⊢
  exact ⟨scp_grow h s k.1, scpL_grow h l k.2⟩
end
end Go.Proofs.Ytbkpiljencaoeaa
