/- What the rows over clocks share. -/
import Derived.Test.YtnedgfkgmdoahaaRows
import Derived.Test.YtnedgfkgmdoahaaDkFlat
import Derived.Test.YtnedgfkgmdoahaaClkSpec
set_option linter.unusedSimpArgs false
set_option linter.unusedVariables false
set_option linter.unnecessarySimpa false
namespace Go.Proofs.Ytnedgfkgmdoahaa
open Go Go.ChangeShapes Go.WideShapes Go.ChangeAt Go.RowKit Go.Sx Go.Clk Go.Dk
set_option maxRecDepth 100000
theorem Try.own : ownKnob Try.prog.godebug = none := by kernel_rfl
theorem Try.laidOut : laidOutB Try.prog = true := by kernel_rfl
theorem sync_ks (cs : List Value) (h : Ks [.i64, .i64, .i64] cs) : ∃ x : Sy, cs = x.cells ∧ True := by
 simp only [Ks] at h
 obtain ⟨a, _, rfl, _, b, _, rfl, _, c, _, rfl, _, rfl⟩ := h
 exact ⟨⟨a, b, c⟩, rfl, trivial⟩
theorem open_syncs {H : Type} {enc : TypeId × Value → H} {W : World} {base b0 : Nat} {r : Reach} {spare : Nat → Bool} {held : Bool} {v : Value} {d : DataW H} {p : List MemPlace} (hv : Value.okWide Try.prog W r b0 25 v) (h : DataW.Trod enc Try.prog W base spare held 25 v d p) :
  ∃ (A : Option Addr) (c : Nat) (l : List Sy), v = .slice A l.length c ∧ l.length ≤ c ∧ RowAt W A (cellsS l) := by
 obtain ⟨A, c, l, h1, h2, h3, _⟩ := open_rows (f := Sy.cells) (Q := fun _ => True) 3 Try.underlying25 (L := [.i64, .i64, .i64]) (by kernel_rfl) (by kernel_rfl) (fun _ => rfl) sync_ks hv h
 exact ⟨A, c, l, h1, h2, h3⟩
end Go.Proofs.Ytnedgfkgmdoahaa
