/- The plain law of graphs (1): numbers in order, each once; edges by their first nodes. No program in sight. -/
import Derived.Test.YtbkpiljencaoeaaSxCore
set_option linter.unusedSimpArgs false
set_option linter.unusedVariables false
set_option linter.unnecessarySimpa false
namespace Go.Gr
open Go Go.Sx
def isV (l : List Int) : List Value := l.map fun n => .int .i64 n
theorem isV_len (l : List Int) : (isV l).length = l.length := by simp [isV]
theorem isV_get (l : List Int) (j : Nat) (x : Int) (h : l[j]? = some x) : (isV l)[j]? = some (.int .i64 x) := by
 unfold isV; rw [List.getElem?_map, h]; rfl
def srtI (l : List Int) : List Int := l.mergeSort fun x y => decide (x ≤ y)
theorem srtI_up (l : List Int) : (srtI l).Pairwise (· ≤ ·) := by
 have := List.pairwise_mergeSort (le := fun x y : Int => decide (x ≤ y)) (fun a b c h1 h2 => by simp at *; omega) (fun a b => by simp; omega) l
 exact this.imp fun h => by simpa using h
theorem srtI_len (l : List Int) : (srtI l).length = l.length := List.length_mergeSort _
end Go.Gr
namespace Go.Gr
abbrev Ed := Int × Int
def okG (n : Int) (l : List Ed) : Prop := 0 ≤ n ∧ n ≤ 500 ∧ l.length ≤ 20000 ∧ ∀ e ∈ l, 0 ≤ e.1 ∧ e.1 < n ∧ 0 ≤ e.2 ∧ e.2 < n
instance (n : Int) (l : List Ed) : Decidable (okG n l) := by unfold okG; infer_instance
end Go.Gr
