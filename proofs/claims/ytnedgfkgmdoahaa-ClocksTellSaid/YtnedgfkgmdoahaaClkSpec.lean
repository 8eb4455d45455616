/- Operations and clocks as values. -/
import Derived.Test.YtnedgfkgmdoahaaClkPlain
import Derived.Test.YtnedgfkgmdoahaaSxStill
set_option linter.unusedSimpArgs false
set_option linter.unusedVariables false
set_option linter.unnecessarySimpa false
namespace Go.Clk
open Go Go.Sx
def Sy.cells (x : Sy) : List Value := [.int .i64 x.core, .int .i64 x.kind, .int .i64 x.addr]
abbrev Sy.val (x : Sy) : Value := .agg x.cells.toArray
def Sy.sv (x : Sy) : List SV := [.val (.int .i64 x.core), .val (.int .i64 x.kind), .val (.int .i64 x.addr)]
def cellsS (l : List Sy) : List Value := l.flatMap Sy.cells
theorem cellsS_len (l : List Sy) : (cellsS l).length = l.length * 3 := flat_len (f := Sy.cells) (sz := 3) (fun _ => rfl) l
theorem cellsS_get (l : List Sy) {i k : Nat} (hi : i < l.length) (hk : k < 3) : (cellsS l)[i * 3 + k]? = (l[i]).cells[k]? := flat_get (f := Sy.cells) (sz := 3) (fun _ => rfl) l hi hk
theorem cellsS_app (l m : List Sy) : cellsS (l ++ m) = cellsS l ++ cellsS m := by simp [cellsS]
def ckV (c : Ck) : List Value := [.int .i64 (c 0), .int .i64 (c 1), .int .i64 (c 2), .int .i64 (c 3)]
def ckS (c : Ck) : List SV := [.val (.int .i64 (c 0)), .val (.int .i64 (c 1)), .val (.int .i64 (c 2)), .val (.int .i64 (c 3))]
def cellsC (l : List Ck) : List Value := l.flatMap ckV
theorem cellsC_len (l : List Ck) : (cellsC l).length = l.length * 4 := flat_len (f := ckV) (sz := 4) (fun _ => rfl) l
theorem cellsC_get (l : List Ck) {i k : Nat} (hi : i < l.length) (hk : k < 4) : (cellsC l)[i * 4 + k]? = (ckV l[i])[k]? := flat_get (f := ckV) (sz := 4) (fun _ => rfl) l hi hk
theorem cellsC_app (l m : List Ck) : cellsC (l ++ m) = cellsC l ++ cellsC m := by simp [cellsC]
theorem ck_is (H : List SO) (c : Ck) : Is H (.agg (ckS c)) (.agg (ckV c).toArray) := by simp only [Is]; exact ⟨ckV c, by simp [ckS, ckV, IsL, Is], rfl⟩
def belB (a b : Ck) : Bool := max (a 0) (b 0) == b 0 && (max (a 1) (b 1) == b 1 && (max (a 2) (b 2) == b 2 && (max (a 3) (b 3) == b 3 && true)))
theorem belB_iff (a b : Ck) : belB a b = true ↔ bel a b := by
 unfold belB bel
 simp only [Bool.and_eq_true, beq_iff_eq, and_true]
 constructor
 ·rintro ⟨h0, h1, h2, h3⟩ j hj
  have : j = 0 ∨ j = 1 ∨ j = 2 ∨ j = 3 := by omega
  rcases this with rfl | rfl | rfl | rfl <;> omega
 ·intro h
  have h0 := h 0 (by omega); have h1 := h 1 (by omega); have h2 := h 2 (by omega); have h3 := h 3 (by omega)
  omega
def badB (x : Sy) : Bool := decide (¬ okS x)
theorem torow_rule {C : Cx} {E : Env} {k : List KI} {s : SS} (i : Nat) {g : Nat} {t : TypeId} {l : List SV} {xs : List Value} (hi : nth s.H i = some (.cells g t l)) (hx : denL s.H l = some xs) (h : G C E k { F := s.F, H := setn s.H i (.row g t xs) }) : G C E k s :=
 fun a W rep => h a W (rep.torow i hi hx)
end Go.Clk
