/- What the rows over graphs share. -/
import Derived.Test.YtbkpiljencaoeaaRows
import Derived.Test.YtbkpiljencaoeaaDkFlat
import Derived.Test.YtbkpiljencaoeaaGrM0
set_option linter.unusedSimpArgs false
set_option linter.unusedVariables false
set_option linter.unnecessarySimpa false
namespace Go.Proofs.Ytbkpiljencaoeaa
open Go Go.ChangeShapes Go.WideShapes Go.ChangeAt Go.RowKit Go.Sx Go.Gr Go.Dk
set_option maxRecDepth 100000
theorem Try.ownH : ownKnob Try.prog.godebug = none := by kernel_rfl
theorem Try.laidOutH : laidOutB Try.prog = true := by kernel_rfl
theorem ed_ks (cs : List Value) (h : Ks [.i64, .i64] cs) : ∃ x : Ed, cs = edV x ∧ True := by
 simp only [Ks] at h
 obtain ⟨a, _, rfl, _, b, _, rfl, _, rfl⟩ := h
 exact ⟨(a, b), rfl, trivial⟩
theorem open_edges {H : Type} {enc : TypeId × Value → H} {W : World} {base b0 : Nat} {r : Reach} {spare : Nat → Bool} {held : Bool} {v : Value} {d : DataW H} {p : List MemPlace} (hv : Value.okWide Try.prog W r b0 22 v) (h : DataW.Trod enc Try.prog W base spare held 22 v d p) :
  ∃ (A : Option Addr) (c : Nat) (l : List Ed), v = .slice A l.length c ∧ RowAt W A (cellsD l) := by
 obtain ⟨A, c, l, h1, h2, h3, h4⟩ := open_rows (f := edV) (Q := fun _ => True) 9 Try.underlying22 (L := [.i64, .i64]) (by kernel_rfl) (by kernel_rfl) (fun _ => rfl) ed_ks hv h
 exact ⟨A, c, l, h1, h3⟩
end Go.Proofs.Ytbkpiljencaoeaa
