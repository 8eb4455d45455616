/- What the rows over histories share. -/
import Derived.Test.YtnedgfkgmdoahaaRows
import Derived.Test.YtnedgfkgmdoahaaDkFlat
import Derived.Test.YtnedgfkgmdoahaaHsSpec
set_option linter.unusedSimpArgs false
set_option linter.unusedVariables false
set_option linter.unnecessarySimpa false
namespace Go.Proofs.Ytnedgfkgmdoahaa
open Go Go.ChangeShapes Go.WideShapes Go.ChangeAt Go.RowKit Go.Sx Go.Hs Go.Dk
set_option maxRecDepth 100000
theorem Try.ownH : ownKnob Try.prog.godebug = none := by kernel_rfl
theorem Try.laidOutH : laidOutB Try.prog = true := by kernel_rfl
def evU (e : Ev) : Prop := 0 ≤ e.value ∧ e.value < 18446744073709551616
theorem lit_u64 {n : Int} (h : (Lit.int .u64 n).wf = true) : 0 ≤ n ∧ n < 18446744073709551616 := by
 simp [Lit.wf, IntKind.min, IntKind.max, IntKind.signed, IntKind.bits] at h
 omega
theorem ev_ks (cs : List Value) (h : Ks [.i64, .i64, .i64, .i64, .i64, .i64, .i64, .u64, .i64] cs) : ∃ x : Ev, cs = x.cells ∧ evU x := by
 simp only [Ks] at h
 obtain ⟨a, _, rfl, _, b, _, rfl, _, c, _, rfl, _, d, _, rfl, _, e, _, rfl, _, f, _, rfl, _, g, _, rfl, _, i, _, rfl, hi, j, _, rfl, _, rfl⟩ := h
 exact ⟨⟨a, b, c, d, e, f, g, i, j⟩, rfl, lit_u64 hi⟩
theorem open_events {H : Type} {enc : TypeId × Value → H} {W : World} {base b0 : Nat} {r : Reach} {spare : Nat → Bool} {held : Bool} {v : Value} {d : DataW H} {p : List MemPlace} (hv : Value.okWide Try.prog W r b0 62 v) (h : DataW.Trod enc Try.prog W base spare held 62 v d p) :
  ∃ (A : Option Addr) (c : Nat) (l : List Ev), v = .slice A l.length c ∧ l.length ≤ c ∧ RowAt W A (cellsE l) ∧ ∀ e ∈ l, evU e := by
 obtain ⟨A, c, l, h1, h2, h3, h4⟩ := open_rows (f := Ev.cells) (Q := evU) 9 Try.underlying62 (L := [.i64, .i64, .i64, .i64, .i64, .i64, .i64, .u64, .i64]) (by kernel_rfl) (by kernel_rfl) (fun _ => rfl) ev_ks hv h
 exact ⟨A, c, l, h1, h2, h3, h4⟩
end Go.Proofs.Ytnedgfkgmdoahaa
