/- Plain words of isa: what may be, and what an instruction asks for. -/
import Derived.Test.YtlbiogokpadaoaaGreatDoorIsaSpec
import Derived.Lib.Bytealg
set_option linter.unusedSimpArgs false
set_option linter.unusedVariables false
set_option linter.unnecessarySimpa false
namespace Go.Isa
open Go Go.Sx

def nmL (op : Int) : List UInt8 :=
  if op = 2 then [65, 73] else if op = 3 then [65, 66] else if 4 ≤ op ∧ op ≤ 10 then [65, 66, 67] else if op = 11 ∨ op = 12 ∨ op = 14 ∨ op = 15 ∨ op = 16 then [65, 66, 73] else if op = 13 then [73] else []
def isOp (op : Int) : Bool := decide (1 ≤ op) && decide (op ≤ 18)
def hasL (op : Int) (c : Int) : Bool := decide (0 ≤ Lib.indexByte (nmL op) c.toNat.toUInt8)
def isReg (n : Int) : Bool := decide (0 ≤ n) && decide (n < 8)
def legalB (x : In) : Bool := isOp x.op && (!hasL x.op 65 || isReg x.a) && (!hasL x.op 66 || isReg x.b) && (!hasL x.op 67 || isReg x.c)
theorem isOp_cases {op : Int} (h : isOp op = true) : op = 1 ∨ op = 2 ∨ op = 3 ∨ op = 4 ∨ op = 5 ∨ op = 6 ∨ op = 7 ∨ op = 8 ∨ op = 9 ∨ op = 10 ∨ op = 11 ∨ op = 12 ∨ op = 13 ∨ op = 14 ∨ op = 15 ∨ op = 16 ∨ op = 17 ∨ op = 18 := by
  simp only [isOp, Bool.and_eq_true, decide_eq_true_eq] at h; omega
theorem nmL_out {op : Int} (h : isOp op = false) : nmL op = [] := by
  have : ¬ (1 ≤ op ∧ op ≤ 18) := by intro k; simp [isOp, k.1, k.2] at h
  unfold nmL
  rw [if_neg (by omega), if_neg (by omega), if_neg (by omega), if_neg (by omega), if_neg (by omega)]

structure Ef where
  kind : Int
  next : Int
  reg : Int
  value : Int
  addr : Int
deriving DecidableEq
def Ef.cells (e : Ef) : List Value := [.int .i64 e.kind, .int .i64 e.next, .int .i64 e.reg, .int .u64 e.value, .int .u64 e.addr]
def Ef.val (e : Ef) : Value := .agg e.cells.toArray
def Ef.zero : Ef := ⟨0, 0, 0, 0, 0⟩
def w64 (n : Int) : Int := n % 18446744073709551616
def is64 (n : Int) : Prop := -9223372036854775808 ≤ n ∧ n ≤ 9223372036854775807
def isU (n : Int) : Prop := 0 ≤ n ∧ n < 18446744073709551616
def goE (imm pc : Int) (is : Bool) : Ef := if is then (if imm < 0 ∨ 1024 < imm then Ef.zero else ⟨2, imm, 0, 0, 0⟩) else ⟨2, pc + 1, 0, 0, 0⟩
def doE (x : In) (a b c pc : Int) : Ef :=
  if x.op = 1 then ⟨7, pc + 1, 0, 0, 0⟩
  else if x.op = 2 then ⟨1, pc + 1, x.a, w64 x.imm, 0⟩
  else if x.op = 3 then ⟨1, pc + 1, x.a, b, 0⟩
  else if x.op = 4 then ⟨1, pc + 1, x.a, w64 (b + c), 0⟩
  else if x.op = 5 then ⟨1, pc + 1, x.a, w64 (b - c), 0⟩
  else if x.op = 6 then ⟨1, pc + 1, x.a, w64 (b * c), 0⟩
  else if x.op = 7 then ⟨1, pc + 1, x.a, w64 (BitVec.ofInt 64 b &&& BitVec.ofInt 64 c).toNat, 0⟩
  else if x.op = 8 then ⟨1, pc + 1, x.a, w64 (BitVec.ofInt 64 b ^^^ BitVec.ofInt 64 c).toNat, 0⟩
  else if x.op = 9 then ⟨1, pc + 1, x.a, w64 (b * 2 ^ (c % 64).toNat), 0⟩
  else if x.op = 10 then ⟨1, pc + 1, x.a, b / 2 ^ (c % 64).toNat, 0⟩
  else if x.op = 11 then ⟨3, pc + 1, x.a, 0, w64 (b + w64 x.imm)⟩
  else if x.op = 12 then ⟨4, pc + 1, 0, a, w64 (b + w64 x.imm)⟩
  else if x.op = 13 then goE x.imm pc true
  else if x.op = 14 then goE x.imm pc (a == b)
  else if x.op = 15 then goE x.imm pc (a != b)
  else if x.op = 16 then goE x.imm pc (decide (a < b))
  else if x.op = 17 then ⟨5, pc + 1, 0, 0, 0⟩
  else ⟨6, pc + 1, 0, 0, 0⟩
def rg (r : List Int) (n : Int) : Int := r.getD (n % 8).toNat 0
def doB (x : In) (r : List Int) (pc : Int) : Ef := if legalB x ∧ 0 ≤ pc ∧ pc < 1024 then doE x (rg r x.a) (rg r x.b) (rg r x.c) pc else Ef.zero
def uV (n : Int) : Value := .int .u64 n
end Go.Isa
