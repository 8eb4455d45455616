/- Plain words of isa: instructions, their bytes. -/
import Derived.Test.YtlbiogokpadaoaaGreatDoorSxLib
set_option linter.unusedSimpArgs false
set_option linter.unusedVariables false
set_option linter.unnecessarySimpa false
namespace Go.Isa
open Go Go.Sx

structure In where
  op : Int
  a : Int
  b : Int
  c : Int
  imm : Int
deriving DecidableEq
def In.cells (x : In) : List Value := [.int .i64 x.op, .int .i64 x.a, .int .i64 x.b, .int .i64 x.c, .int .i64 x.imm]
def cellsI (l : List In) : List Value := l.flatMap In.cells
theorem cellsI_len (l : List In) : (cellsI l).length = l.length * 5 := flat_len (f := In.cells) (sz := 5) (fun _ => rfl) l
theorem cellsI_get (l : List In) {i k : Nat} (hi : i < l.length) (hk : k < 5) : (cellsI l)[i * 5 + k]? = (l[i]).cells[k]? := flat_get (f := In.cells) (sz := 5) (fun _ => rfl) l hi hk
theorem cellsI_app (l m : List In) : cellsI (l ++ m) = cellsI l ++ cellsI m := by simp [cellsI]

structure RI where
  i : Nat
  A : Option Addr
  c : Nat

def vb (n : Int) : Value := .int .u8 n
def isB (n : Int) : Prop := 0 ≤ n ∧ n ≤ 255
instance (n : Int) : Decidable (isB n) := by unfold isB; infer_instance

def low (m : Int) : Int := if m < 0 then m + 4294967296 else m
def immB (m : Int) : List Int := [low m / 16777216, low m / 65536 % 256, low m / 256 % 256, low m % 256]
def okIn (x : In) : Prop := (isB x.op ∧ isB x.a ∧ isB x.b ∧ isB x.c) ∧ -2147483648 ≤ x.imm ∧ x.imm ≤ 2147483647
instance (x : In) : Decidable (okIn x) := by unfold okIn; infer_instance
def encIn (x : In) : List Int := [x.op, x.a, x.b, x.c] ++ immB x.imm
def encL : List In → List Int
  | [] => []
  | x :: l => encIn x ++ encL l
theorem encL_app (l m : List In) : encL (l ++ m) = encL l ++ encL m := by
  induction l with
  | nil => rfl
  | cons x l ih => simp [encL, ih]
theorem encL_len (l : List In) : (encL l).length = l.length * 8 := by
  induction l with
  | nil => rfl
  | cons x l ih => simp [encL, encIn, immB, ih]; omega
def okL (l : List In) : Prop := l.length ≤ 1024 ∧ ∀ x ∈ l, okIn x
theorem take_succ {α : Type} (l : List α) {i : Nat} (h : i < l.length) : l.take (i + 1) = l.take i ++ [l[i]] := by
  rw [List.take_add_one, List.getElem?_eq_getElem h]; rfl
end Go.Isa
namespace Go.Isa
open Go Go.Sx
def bytesOf (l : List Int) : ByteArray := ⟨(l.map fun n => UInt8.ofNat n.toNat).toArray⟩
theorem bytesOf_eq (l : List Int) (h : ∀ n ∈ l, isB n) : l.map vb = bytesV (bytesOf l) := by
  simp only [bytesV, bytesOf, List.map_map]
  apply List.map_congr_left
  intro n hn
  have := h n hn
  simp only [isB] at this
  simp only [vb, Function.comp]
  congr 1
  have : n.toNat < 256 := by omega
  rw [UInt8.toNat_ofNat_of_lt' (by simpa using this)]
  omega
theorem immB_isB (m : Int) (h0 : -2147483648 ≤ m) (h1 : m ≤ 2147483647) : ∀ n ∈ immB m, isB n := by
  intro n hn
  have hl : 0 ≤ low m ∧ low m < 4294967296 := by unfold low; split <;> omega
  simp only [immB, List.mem_cons, List.not_mem_nil, or_false] at hn
  unfold isB
  rcases hn with rfl | rfl | rfl | rfl <;> omega
theorem encL_isB (l : List In) (h : ∀ x ∈ l, okIn x) : ∀ n ∈ encL l, isB n := by
  induction l with
  | nil => intro n hn; simp [encL] at hn
  | cons x l ih =>
    intro n hn
    simp only [encL, List.mem_append] at hn
    rcases hn with hn | hn
    · have hx := h x (by simp)
      simp only [encIn, List.mem_append] at hn
      rcases hn with hn | hn
      · simp only [List.mem_cons, List.not_mem_nil, or_false] at hn
        rcases hn with rfl | rfl | rfl | rfl
        · exact hx.1.1
        · exact hx.1.2.1
        · exact hx.1.2.2.1
        · exact hx.1.2.2.2
      · exact immB_isB _ hx.2.1 hx.2.2 n hn
    · exact ih (fun y hy => h y (by simp [hy])) n hn
end Go.Isa
namespace Go.Isa
open Go Go.Sx
def gB (b : List Int) (j : Nat) : Int := b.getD j 0
def immF (b : List Int) (i : Nat) : Nat → Int
  | 0 => 0
  | n + 1 => immF b i n * 256 + gB b (i * 8 + (4 + n))
def signed (m : Int) : Int := if m ≥ 2147483648 then m - 4294967296 else m
def decAt (b : List Int) (i : Nat) : In := ⟨gB b (i * 8), gB b (i * 8 + 1), gB b (i * 8 + 2), gB b (i * 8 + 3), signed (immF b i 4)⟩
def decN (b : List Int) (n : Nat) : List In := (List.range n).map (decAt b)
def decL (b : List Int) : List In := decN b (min 1024 (b.length / 8))
theorem decN_len (b : List Int) (n : Nat) : (decN b n).length = n := by simp [decN]
theorem decN_succ (b : List Int) (n : Nat) : decN b (n + 1) = decN b n ++ [decAt b n] := by simp [decN, List.range_succ]
theorem gB_get {b : List Int} {j : Nat} (h : j < b.length) : (b.map vb)[j]? = some (.int .u8 (gB b j)) := by
  simp [gB, List.getD, h, vb]
theorem gB_isB {b : List Int} (hb : ∀ n ∈ b, isB n) (j : Nat) : isB (gB b j) := by
  unfold gB List.getD
  cases h : b[j]? with
  | none => simp [isB]
  | some x => exact hb x (List.mem_of_getElem? h)
theorem immF_bound {b : List Int} (hb : ∀ n ∈ b, isB n) (i : Nat) : ∀ n, n ≤ 4 → 0 ≤ immF b i n ∧ immF b i n < 4294967296 ∧ (n ≤ 3 → immF b i n < 16777216) ∧ (n ≤ 2 → immF b i n < 65536) ∧ (n ≤ 1 → immF b i n < 256) ∧ (n ≤ 0 → immF b i n < 1)
  | 0, _ => by simp [immF]
  | n + 1, h => by
    have ih := immF_bound hb i n (by omega)
    have := gB_isB hb (i * 8 + (4 + n))
    simp only [isB] at this
    simp only [immF]
    have : n = 0 ∨ n = 1 ∨ n = 2 ∨ n = 3 := by omega
    rcases this with rfl | rfl | rfl | rfl <;> omega
theorem cellsI_setOp : ∀ (m : List In) (i : Nat) (h : i < m.length) (z : Int), (cellsI m).set (i * 5) (.int .i64 z) = cellsI (m.set i { m[i] with op := z })
  | x :: m, 0, _, z => by simp [cellsI, In.cells]
  | x :: m, i + 1, h, z => by
    have ih := cellsI_setOp m i (by simpa using h) z
    have e : cellsI (x :: m) = x.cells ++ cellsI m := by simp [cellsI]
    have e' : ∀ y, cellsI (x :: m.set i y) = x.cells ++ cellsI (m.set i y) := by intro y; simp [cellsI]
    rw [List.set_cons_succ, e, e', List.getElem_cons_succ, ← ih]
    rw [List.set_append_right _ _ (by simp [In.cells]; omega)]
    congr 2
    simp [In.cells]; omega
end Go.Isa
