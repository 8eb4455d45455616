/- What the rows over caches share. -/
import Derived.Test.YtimmobbginjkfaaRows
import Derived.Test.YtimmobbginjkfaaDkFlat
import Derived.Test.YtimmobbginjkfaaDkMix
import Derived.Test.YtimmobbginjkfaaCaW10
set_option linter.unusedSimpArgs false
set_option linter.unusedVariables false
set_option linter.unnecessarySimpa false
namespace Go.Proofs.Ytimmobbginjkfaa
open Go Go.ChangeShapes Go.WideShapes Go.ChangeAt Go.RowKit Go.Sx Go.Ca
set_option maxRecDepth 100000
theorem Try.ownH : ownKnob Try.prog.godebug = none := by kernel_rfl
theorem Try.laidOutH : laidOutB Try.prog = true := by kernel_rfl
theorem sp_ks (cs : List Value) (h : Dm.Ks [some .i64, some .i64, some .i64, none, some .u64, some .u64, some .u64, some .u64, some .u64, some .u64, some .u64, some .u64, some .u64] cs) : ∃ x : Sp, cs = spV x ∧ True := by
 simp only [Dm.Ks] at h
 obtain ⟨a, _, rfl, _, b, _, rfl, _, c, _, rfl, _, d, _, rfl, e, _, rfl, _, l0, _, rfl, _, l1, _, rfl, _, l2, _, rfl, _, l3, _, rfl, _, l4, _, rfl, _, l5, _, rfl, _, l6, _, rfl, _, l7, _, rfl, _, rfl⟩ := h
 exact ⟨⟨a, b, c, d, e, fun k => ([l0, l1, l2, l3, l4, l5, l6, l7] : List Int).getD k 0⟩, rfl, trivial⟩
theorem open_steps {H : Type} {enc : TypeId × Value → H} {W : World} {base b0 : Nat} {r : Reach} {spare : Nat → Bool} {held : Bool} {v : Value} {d : DataW H} {p : List MemPlace} (hv : Value.okWide Try.prog W r b0 23 v) (h : DataW.Trod enc Try.prog W base spare held 23 v d p) :
  ∃ (A : Option Addr) (c : Nat) (l : List Sp), v = .slice A l.length c ∧ l.length ≤ c ∧ RowAt W A (cellsS l) := by
 obtain ⟨A, c, l, h1, h2, h3, h4⟩ := Dm.open_rows (f := spV) (Q := fun _ => True) 9 Try.underlying23 (L := [some .i64, some .i64, some .i64, none, some .u64, some .u64, some .u64, some .u64, some .u64, some .u64, some .u64, some .u64, some .u64]) (by kernel_rfl) (by kernel_rfl) (fun _ => rfl) sp_ks hv h
 exact ⟨A, c, l, h1, h2, h3⟩
end Go.Proofs.Ytimmobbginjkfaa
