/- Plain words of isa: instructions, their bytes. -/
import Derived.Test.YtgghmmjoplddbaaDoorSxLib
import Derived.Lib.Bytealg
set_option linter.unusedSimpArgs false
set_option linter.unusedVariables false
set_option linter.unnecessarySimpa false
namespace Go.Isa
open Go Go.Sx
structure In where
 op : Int
 a : Int
 b : Int
 c : Int
 imm : Int
deriving DecidableEq
def In.cells (x : In) : List Value := [.int .i64 x.op, .int .i64 x.a, .int .i64 x.b, .int .i64 x.c, .int .i64 x.imm]
def cellsI (l : List In) : List Value := l.flatMap In.cells
theorem cellsI_len (l : List In) : (cellsI l).length = l.length * 5 := flat_len (f := In.cells) (sz := 5) (fun _ => rfl) l
theorem cellsI_get (l : List In) {i k : Nat} (hi : i < l.length) (hk : k < 5) : (cellsI l)[i * 5 + k]? = (l[i]).cells[k]? := flat_get (f := In.cells) (sz := 5) (fun _ => rfl) l hi hk
theorem cellsI_app (l m : List In) : cellsI (l ++ m) = cellsI l ++ cellsI m := by simp [cellsI]
structure RI where
 i : Nat
 A : Option Addr
 c : Nat
def isB (n : Int) : Prop := 0 ≤ n ∧ n ≤ 255
instance (n : Int) : Decidable (isB n) := by unfold isB; infer_instance
def low (m : Int) : Int := if m < 0 then m + 4294967296 else m
def okIn (x : In) : Prop := (isB x.op ∧ isB x.a ∧ isB x.b ∧ isB x.c) ∧ -2147483648 ≤ x.imm ∧ x.imm ≤ 2147483647
instance (x : In) : Decidable (okIn x) := by unfold okIn; infer_instance
def okL (l : List In) : Prop := l.length ≤ 1024 ∧ ∀ x ∈ l, okIn x
end Go.Isa
namespace Go.Isa
open Go Go.Sx
end Go.Isa
namespace Go.Isa
open Go Go.Sx
end Go.Isa
namespace Go.Isa
open Go Go.Sx
def nmL (op : Int) : List UInt8 :=
 if op = 2 then [65, 73] else if op = 3 then [65, 66] else if 4 ≤ op ∧ op ≤ 10 then [65, 66, 67] else if op = 11 ∨ op = 12 ∨ op = 14 ∨ op = 15 ∨ op = 16 then [65, 66, 73] else if op = 13 then [73] else []
def isOp (op : Int) : Bool := decide (1 ≤ op) && decide (op ≤ 18)
def hasL (op : Int) (c : Int) : Bool := decide (0 ≤ Lib.indexByte (nmL op) c.toNat.toUInt8)
def isReg (n : Int) : Bool := decide (0 ≤ n) && decide (n < 8)
def legalB (x : In) : Bool := isOp x.op && (!hasL x.op 65 || isReg x.a) && (!hasL x.op 66 || isReg x.b) && (!hasL x.op 67 || isReg x.c)
theorem isOp_cases {op : Int} (h : isOp op = true) : op = 1 ∨ op = 2 ∨ op = 3 ∨ op = 4 ∨ op = 5 ∨ op = 6 ∨ op = 7 ∨ op = 8 ∨ op = 9 ∨ op = 10 ∨ op = 11 ∨ op = 12 ∨ op = 13 ∨ op = 14 ∨ op = 15 ∨ op = 16 ∨ op = 17 ∨ op = 18 := by
 simp only [isOp, Bool.and_eq_true, decide_eq_true_eq] at h; omega
theorem nmL_out {op : Int} (h : isOp op = false) : nmL op = [] := by
 have : ¬ (1 ≤ op ∧ op ≤ 18) := by intro k; simp [isOp, k.1, k.2] at h
 unfold nmL
 rw [if_neg (by omega), if_neg (by omega), if_neg (by omega), if_neg (by omega), if_neg (by omega)]
structure Ef where
 kind : Int
 next : Int
 reg : Int
 value : Int
 addr : Int
deriving DecidableEq
def Ef.cells (e : Ef) : List Value := [.int .i64 e.kind, .int .i64 e.next, .int .i64 e.reg, .int .u64 e.value, .int .u64 e.addr]
def Ef.val (e : Ef) : Value := .agg e.cells.toArray
def Ef.zero : Ef := ⟨0, 0, 0, 0, 0⟩
def rg (r : List Int) (n : Int) : Int := r.getD (n % 8).toNat 0
end Go.Isa
namespace Go.Isa
open Go Go.Sx
structure LedOk (cs : List In) (led : List Int) (p : Int) : Prop where
 nd : led.Nodup
 rg : ∀ q ∈ led, 0 ≤ q ∧ q < cs.length
 no : p ∉ led
 p0 : 0 ≤ p
theorem nodup_range : ∀ (n : Nat) (l : List Int), l.Nodup → (∀ q ∈ l, 0 ≤ q ∧ q < (n : Int)) → l.length ≤ n
 | 0, l, _, h => by
  cases l with
  | nil => simp
  | cons x l => have := h x (by simp); omega
 | n + 1, l, hn, h => by
  have h1 : (l.erase (n : Int)).length ≤ n := by
   refine nodup_range n _ (hn.erase _) fun q hq => ?_
   have hq' := List.mem_of_mem_erase hq
   have := h q hq'
   have hne : q ≠ (n : Int) := fun e => by subst e; exact (List.Nodup.not_mem_erase hn) hq
   omega
  have h2 : l.length ≤ (l.erase (n : Int)).length + 1 := by
   rcases Classical.em ((n : Int) ∈ l) with hm | hm
   ·rw [List.length_erase_of_mem hm]; omega
   ·rw [List.erase_of_not_mem hm]; omega
  omega
theorem LedOk.len {cs : List In} {led : List Int} {p : Int} (h : LedOk cs led p) : led.length ≤ cs.length := nodup_range _ _ h.nd h.rg
theorem LedOk.step {cs : List In} {led : List Int} {p : Int} (h : LedOk cs led p) (hp : p < cs.length) {q : Int} (hq : q ∉ p :: led) (h0 : 0 ≤ q) : LedOk cs (p :: led) q where
 nd := List.nodup_cons.2 ⟨h.no, h.nd⟩
 rg r hr := by
  rcases List.mem_cons.1 hr with rfl | hr
  ·exact ⟨h.p0, hp⟩
  ·exact h.rg r hr
 no := hq
 p0 := h0
end Go.Isa
namespace Go.Isa
open Go Go.Sx
end Go.Isa
