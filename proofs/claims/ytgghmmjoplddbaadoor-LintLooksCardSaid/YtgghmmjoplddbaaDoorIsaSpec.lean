/- Plain words of isa: instructions, their bytes. -/
import Derived.Test.YtgghmmjoplddbaaDoorSxLib
import Derived.Lib.Bytealg
set_option linter.unusedSimpArgs false
set_option linter.unusedVariables false
set_option linter.unnecessarySimpa false
namespace Go.Isa
open Go Go.Sx
structure In where
 op : Int
 a : Int
 b : Int
 c : Int
 imm : Int
deriving DecidableEq
def In.cells (x : In) : List Value := [.int .i64 x.op, .int .i64 x.a, .int .i64 x.b, .int .i64 x.c, .int .i64 x.imm]
def cellsI (l : List In) : List Value := l.flatMap In.cells
theorem cellsI_len (l : List In) : (cellsI l).length = l.length * 5 := flat_len (f := In.cells) (sz := 5) (fun _ => rfl) l
theorem cellsI_get (l : List In) {i k : Nat} (hi : i < l.length) (hk : k < 5) : (cellsI l)[i * 5 + k]? = (l[i]).cells[k]? := flat_get (f := In.cells) (sz := 5) (fun _ => rfl) l hi hk
theorem cellsI_app (l m : List In) : cellsI (l ++ m) = cellsI l ++ cellsI m := by simp [cellsI]
structure RI where
 i : Nat
 A : Option Addr
 c : Nat
def vb (n : Int) : Value := .int .u8 n
def isB (n : Int) : Prop := 0 ≤ n ∧ n ≤ 255
instance (n : Int) : Decidable (isB n) := by unfold isB; infer_instance
def low (m : Int) : Int := if m < 0 then m + 4294967296 else m
def immB (m : Int) : List Int := [low m / 16777216, low m / 65536 % 256, low m / 256 % 256, low m % 256]
def okIn (x : In) : Prop := (isB x.op ∧ isB x.a ∧ isB x.b ∧ isB x.c) ∧ -2147483648 ≤ x.imm ∧ x.imm ≤ 2147483647
instance (x : In) : Decidable (okIn x) := by unfold okIn; infer_instance
def encIn (x : In) : List Int := [x.op, x.a, x.b, x.c] ++ immB x.imm
def encL : List In → List Int
 | [] => []
 | x :: l => encIn x ++ encL l
theorem encL_app (l m : List In) : encL (l ++ m) = encL l ++ encL m := by
 induction l with
 | nil => rfl
 | cons x l ih => simp [encL, ih]
theorem encL_len (l : List In) : (encL l).length = l.length * 8 := by
 induction l with
 | nil => rfl
 | cons x l ih => simp [encL, encIn, immB, ih]; omega
def okL (l : List In) : Prop := l.length ≤ 1024 ∧ ∀ x ∈ l, okIn x
theorem take_succ {α : Type} (l : List α) {i : Nat} (h : i < l.length) : l.take (i + 1) = l.take i ++ [l[i]] := by
 rw [List.take_add_one, List.getElem?_eq_getElem h]; rfl
end Go.Isa
namespace Go.Isa
open Go Go.Sx
def bytesOf (l : List Int) : ByteArray := ⟨(l.map fun n => UInt8.ofNat n.toNat).toArray⟩
theorem bytesOf_eq (l : List Int) (h : ∀ n ∈ l, isB n) : l.map vb = bytesV (bytesOf l) := by
 simp only [bytesV, bytesOf, List.map_map]
 apply List.map_congr_left
 intro n hn
 have := h n hn
 simp only [isB] at this
 simp only [vb, Function.comp]
 congr 1
 have : n.toNat < 256 := by omega
 rw [UInt8.toNat_ofNat_of_lt' (by simpa using this)]
 omega
theorem immB_isB (m : Int) (h0 : -2147483648 ≤ m) (h1 : m ≤ 2147483647) : ∀ n ∈ immB m, isB n := by
 intro n hn
 have hl : 0 ≤ low m ∧ low m < 4294967296 := by unfold low; split <;> omega
 simp only [immB, List.mem_cons, List.not_mem_nil, or_false] at hn
 unfold isB
 rcases hn with rfl | rfl | rfl | rfl <;> omega
theorem encL_isB (l : List In) (h : ∀ x ∈ l, okIn x) : ∀ n ∈ encL l, isB n := by
 induction l with
 | nil => intro n hn; simp [encL] at hn
 | cons x l ih =>
  intro n hn
  simp only [encL, List.mem_append] at hn
  rcases hn with hn | hn
  ·have hx := h x (by simp)
   simp only [encIn, List.mem_append] at hn
   rcases hn with hn | hn
   ·simp only [List.mem_cons, List.not_mem_nil, or_false] at hn
    rcases hn with rfl | rfl | rfl | rfl
    ·exact hx.1.1
    ·exact hx.1.2.1
    ·exact hx.1.2.2.1
    ·exact hx.1.2.2.2
   ·exact immB_isB _ hx.2.1 hx.2.2 n hn
  ·exact ih (fun y hy => h y (by simp [hy])) n hn
end Go.Isa
namespace Go.Isa
open Go Go.Sx
def gB (b : List Int) (j : Nat) : Int := b.getD j 0
def immF (b : List Int) (i : Nat) : Nat → Int
 | 0 => 0
 | n + 1 => immF b i n * 256 + gB b (i * 8 + (4 + n))
def signed (m : Int) : Int := if m ≥ 2147483648 then m - 4294967296 else m
def decAt (b : List Int) (i : Nat) : In := ⟨gB b (i * 8), gB b (i * 8 + 1), gB b (i * 8 + 2), gB b (i * 8 + 3), signed (immF b i 4)⟩
def decN (b : List Int) (n : Nat) : List In := (List.range n).map (decAt b)
def decL (b : List Int) : List In := decN b (min 1024 (b.length / 8))
theorem decN_len (b : List Int) (n : Nat) : (decN b n).length = n := by simp [decN]
theorem decN_succ (b : List Int) (n : Nat) : decN b (n + 1) = decN b n ++ [decAt b n] := by simp [decN, List.range_succ]
theorem gB_get {b : List Int} {j : Nat} (h : j < b.length) : (b.map vb)[j]? = some (.int .u8 (gB b j)) := by
 simp [gB, List.getD, h, vb]
theorem gB_isB {b : List Int} (hb : ∀ n ∈ b, isB n) (j : Nat) : isB (gB b j) := by
 unfold gB List.getD
 cases h : b[j]? with
 | none => simp [isB]
 | some x => exact hb x (List.mem_of_getElem? h)
theorem immF_bound {b : List Int} (hb : ∀ n ∈ b, isB n) (i : Nat) : ∀ n, n ≤ 4 → 0 ≤ immF b i n ∧ immF b i n < 4294967296 ∧ (n ≤ 3 → immF b i n < 16777216) ∧ (n ≤ 2 → immF b i n < 65536) ∧ (n ≤ 1 → immF b i n < 256) ∧ (n ≤ 0 → immF b i n < 1)
 | 0, _ => by simp [immF]
 | n + 1, h => by
  have ih := immF_bound hb i n (by omega)
  have := gB_isB hb (i * 8 + (4 + n))
  simp only [isB] at this
  simp only [immF]
  have : n = 0 ∨ n = 1 ∨ n = 2 ∨ n = 3 := by omega
  rcases this with rfl | rfl | rfl | rfl <;> omega
theorem cellsI_setOp : ∀ (m : List In) (i : Nat) (h : i < m.length) (z : Int), (cellsI m).set (i * 5) (.int .i64 z) = cellsI (m.set i { m[i] with op := z })
 | x :: m, 0, _, z => by simp [cellsI, In.cells]
 | x :: m, i + 1, h, z => by
  have ih := cellsI_setOp m i (by simpa using h) z
  have e : cellsI (x :: m) = x.cells ++ cellsI m := by simp [cellsI]
  have e' : ∀ y, cellsI (x :: m.set i y) = x.cells ++ cellsI (m.set i y) := by intro y; simp [cellsI]
  rw [List.set_cons_succ, e, e', List.getElem_cons_succ, ← ih]
  rw [List.set_append_right _ _ (by simp [In.cells]; omega)]
  congr 2
  simp [In.cells]; omega
end Go.Isa
namespace Go.Isa
open Go Go.Sx
def nmL (op : Int) : List UInt8 :=
 if op = 2 then [65, 73] else if op = 3 then [65, 66] else if 4 ≤ op ∧ op ≤ 10 then [65, 66, 67] else if op = 11 ∨ op = 12 ∨ op = 14 ∨ op = 15 ∨ op = 16 then [65, 66, 73] else if op = 13 then [73] else []
def isOp (op : Int) : Bool := decide (1 ≤ op) && decide (op ≤ 18)
def hasL (op : Int) (c : Int) : Bool := decide (0 ≤ Lib.indexByte (nmL op) c.toNat.toUInt8)
def isReg (n : Int) : Bool := decide (0 ≤ n) && decide (n < 8)
def legalB (x : In) : Bool := isOp x.op && (!hasL x.op 65 || isReg x.a) && (!hasL x.op 66 || isReg x.b) && (!hasL x.op 67 || isReg x.c)
theorem isOp_cases {op : Int} (h : isOp op = true) : op = 1 ∨ op = 2 ∨ op = 3 ∨ op = 4 ∨ op = 5 ∨ op = 6 ∨ op = 7 ∨ op = 8 ∨ op = 9 ∨ op = 10 ∨ op = 11 ∨ op = 12 ∨ op = 13 ∨ op = 14 ∨ op = 15 ∨ op = 16 ∨ op = 17 ∨ op = 18 := by
 simp only [isOp, Bool.and_eq_true, decide_eq_true_eq] at h; omega
theorem nmL_out {op : Int} (h : isOp op = false) : nmL op = [] := by
 have : ¬ (1 ≤ op ∧ op ≤ 18) := by intro k; simp [isOp, k.1, k.2] at h
 unfold nmL
 rw [if_neg (by omega), if_neg (by omega), if_neg (by omega), if_neg (by omega), if_neg (by omega)]
structure Ef where
 kind : Int
 next : Int
 reg : Int
 value : Int
 addr : Int
deriving DecidableEq
def Ef.cells (e : Ef) : List Value := [.int .i64 e.kind, .int .i64 e.next, .int .i64 e.reg, .int .u64 e.value, .int .u64 e.addr]
def Ef.val (e : Ef) : Value := .agg e.cells.toArray
def Ef.zero : Ef := ⟨0, 0, 0, 0, 0⟩
def w64 (n : Int) : Int := n % 18446744073709551616
def is64 (n : Int) : Prop := -9223372036854775808 ≤ n ∧ n ≤ 9223372036854775807
def isU (n : Int) : Prop := 0 ≤ n ∧ n < 18446744073709551616
def goE (imm pc : Int) (is : Bool) : Ef := if is then (if imm < 0 ∨ 1024 < imm then Ef.zero else ⟨2, imm, 0, 0, 0⟩) else ⟨2, pc + 1, 0, 0, 0⟩
def doE (x : In) (a b c pc : Int) : Ef :=
 if x.op = 1 then ⟨7, pc + 1, 0, 0, 0⟩
 else if x.op = 2 then ⟨1, pc + 1, x.a, w64 x.imm, 0⟩
 else if x.op = 3 then ⟨1, pc + 1, x.a, b, 0⟩
 else if x.op = 4 then ⟨1, pc + 1, x.a, w64 (b + c), 0⟩
 else if x.op = 5 then ⟨1, pc + 1, x.a, w64 (b - c), 0⟩
 else if x.op = 6 then ⟨1, pc + 1, x.a, w64 (b * c), 0⟩
 else if x.op = 7 then ⟨1, pc + 1, x.a, w64 (BitVec.ofInt 64 b &&& BitVec.ofInt 64 c).toNat, 0⟩
 else if x.op = 8 then ⟨1, pc + 1, x.a, w64 (BitVec.ofInt 64 b ^^^ BitVec.ofInt 64 c).toNat, 0⟩
 else if x.op = 9 then ⟨1, pc + 1, x.a, w64 (b * 2 ^ (c % 64).toNat), 0⟩
 else if x.op = 10 then ⟨1, pc + 1, x.a, b / 2 ^ (c % 64).toNat, 0⟩
 else if x.op = 11 then ⟨3, pc + 1, x.a, 0, w64 (b + w64 x.imm)⟩
 else if x.op = 12 then ⟨4, pc + 1, 0, a, w64 (b + w64 x.imm)⟩
 else if x.op = 13 then goE x.imm pc true
 else if x.op = 14 then goE x.imm pc (a == b)
 else if x.op = 15 then goE x.imm pc (a != b)
 else if x.op = 16 then goE x.imm pc (decide (a < b))
 else if x.op = 17 then ⟨5, pc + 1, 0, 0, 0⟩
 else ⟨6, pc + 1, 0, 0, 0⟩
def rg (r : List Int) (n : Int) : Int := r.getD (n % 8).toNat 0
def doB (x : In) (r : List Int) (pc : Int) : Ef := if legalB x ∧ 0 ≤ pc ∧ pc < 1024 then doE x (rg r x.a) (rg r x.b) (rg r x.c) pc else Ef.zero
def uV (n : Int) : Value := .int .u64 n
end Go.Isa
namespace Go.Isa
open Go Go.Sx
def goK (x : In) : Int := if legalB x = true ∧ 0 ≤ x.imm ∧ x.imm ≤ 1024 then (if x.op = 13 then 1 else if 14 ≤ x.op ∧ x.op ≤ 16 then 2 else 0) else 0
theorem goK_imm {x : In} (h : goK x ≠ 0) : 0 ≤ x.imm ∧ x.imm ≤ 1024 := by
 unfold goK at h
 split at h
 ·rename_i h'; exact h'.2
 ·exact absurd rfl h
def thr (cs : List In) : Nat → List Int → Int → Int
 | 0, _, p => p
 | n + 1, led, p => match cs[p.toNat]? with
  | none => p
  | some x => if goK x = 1 ∧ x.imm ∉ p :: led then thr cs n (p :: led) x.imm else p
def thrI (cs : List In) (x : In) : In := if goK x = 0 then x else { x with imm := thr cs cs.length [] x.imm }
def threadL (cs : List In) : List In := cs.map (thrI cs)
theorem threadL_len (cs : List In) : (threadL cs).length = cs.length := by simp [threadL]
structure LedOk (cs : List In) (led : List Int) (p : Int) : Prop where
 nd : led.Nodup
 rg : ∀ q ∈ led, 0 ≤ q ∧ q < cs.length
 no : p ∉ led
 p0 : 0 ≤ p
theorem nodup_range : ∀ (n : Nat) (l : List Int), l.Nodup → (∀ q ∈ l, 0 ≤ q ∧ q < (n : Int)) → l.length ≤ n
 | 0, l, _, h => by
  cases l with
  | nil => simp
  | cons x l => have := h x (by simp); omega
 | n + 1, l, hn, h => by
  have h1 : (l.erase (n : Int)).length ≤ n := by
   refine nodup_range n _ (hn.erase _) fun q hq => ?_
   have hq' := List.mem_of_mem_erase hq
   have := h q hq'
   have hne : q ≠ (n : Int) := fun e => by subst e; exact (List.Nodup.not_mem_erase hn) hq
   omega
  have h2 : l.length ≤ (l.erase (n : Int)).length + 1 := by
   rcases Classical.em ((n : Int) ∈ l) with hm | hm
   ·rw [List.length_erase_of_mem hm]; omega
   ·rw [List.erase_of_not_mem hm]; omega
  omega
theorem LedOk.len {cs : List In} {led : List Int} {p : Int} (h : LedOk cs led p) : led.length ≤ cs.length := nodup_range _ _ h.nd h.rg
theorem LedOk.step {cs : List In} {led : List Int} {p : Int} (h : LedOk cs led p) (hp : p < cs.length) {q : Int} (hq : q ∉ p :: led) (h0 : 0 ≤ q) : LedOk cs (p :: led) q where
 nd := List.nodup_cons.2 ⟨h.no, h.nd⟩
 rg r hr := by
  rcases List.mem_cons.1 hr with rfl | hr
  ·exact ⟨h.p0, hp⟩
  ·exact h.rg r hr
 no := hq
 p0 := h0
theorem at_of {cs : List In} {p : Int} {x : In} (h0 : 0 ≤ p) (h : cs[p.toNat]? = some x) : p < cs.length := by
 have := (List.getElem?_eq_some_iff.1 h).1; omega
theorem thr_more (cs : List In) : ∀ (n : Nat) (led : List Int) (p : Int), LedOk cs led p → cs.length ≤ led.length + n → thr cs (n + 1) led p = thr cs n led p
 | 0, led, p, h, hn => by
  show (match cs[p.toNat]? with | none => p | some x => if goK x = 1 ∧ x.imm ∉ p :: led then thr cs 0 (p :: led) x.imm else p) = p
  split
  ·rfl
  ·rename_i x hx
   have hp := at_of h.p0 hx
   have := nodup_range cs.length (p :: led) (List.nodup_cons.2 ⟨h.no, h.nd⟩) (fun r hr => by
    rcases List.mem_cons.1 hr with rfl | hr
    ·exact ⟨h.p0, hp⟩
    ·exact h.rg r hr)
   simp at this; omega
 | n + 1, led, p, h, hn => by
  rw [thr]
  conv => rhs; rw [thr]
  split
  ·rfl
  ·rename_i x hx
   split
   ·rename_i hc
    exact thr_more cs n _ _ (h.step (at_of h.p0 hx) hc.2 (goK_imm (by rw [hc.1]; decide)).1) (by simp; omega)
   ·rfl
theorem thr_end {cs : List In} {n : Nat} {led : List Int} {p : Int} (h : cs[p.toNat]? = none) : thr cs n led p = p := by
 cases n with
 | zero => rfl
 | succ n => rw [thr, h]
theorem thr_stop {cs : List In} {n : Nat} {led : List Int} {p : Int} {x : In} (hx : cs[p.toNat]? = some x) (h : ¬ (goK x = 1 ∧ x.imm ∉ p :: led)) : thr cs n led p = p := by
 cases n with
 | zero => rfl
 | succ n => rw [thr, hx]; simp only [if_neg h]
theorem thr_on {cs : List In} {n : Nat} {led : List Int} {p : Int} {x : In} (hx : cs[p.toNat]? = some x) (h : goK x = 1 ∧ x.imm ∉ p :: led) : thr cs (n + 1) led p = thr cs n (p :: led) x.imm := by
 rw [thr, hx]; simp only [if_pos h]
theorem thr_all {cs : List In} {led : List Int} {p : Int} {x : In} (hl : LedOk cs led p) (hx : cs[p.toNat]? = some x) (h : goK x = 1 ∧ x.imm ∉ p :: led) : thr cs cs.length led p = thr cs cs.length (p :: led) x.imm := by
 rw [← thr_more cs cs.length led p hl (by omega), thr_on hx h]
theorem thr_rg (cs : List In) : ∀ (n : Nat) (led : List Int) (p : Int), 0 ≤ p → p ≤ 1024 → 0 ≤ thr cs n led p ∧ thr cs n led p ≤ 1024
 | 0, _, p, h0, h1 => ⟨h0, h1⟩
 | n + 1, led, p, h0, h1 => by
  rw [thr]
  split
  ·exact ⟨h0, h1⟩
  ·rename_i x hx
   split
   ·rename_i hc
    have := goK_imm (x := x) (by rw [hc.1]; decide)
    exact thr_rg cs n _ _ this.1 this.2
   ·exact ⟨h0, h1⟩
def setM (l : List Int) : List (Value × Value) := l.map fun n => (.int .i64 n, .agg #[])
theorem setM_keys (l : List Int) : ∀ p ∈ setM l, keyIs (.int .i64) p.1 = true := by
 intro p hp
 simp only [setM, List.mem_map] at hp
 obtain ⟨n, _, rfl⟩ := hp; rfl
theorem setM_get : ∀ (l : List Int) (n : Int), mget (setM l) (.int .i64 n) = if n ∈ l then some (.agg #[]) else none
 | [], n => by simp [setM, mget]
 | m :: l, n => by
  show (match keyB (Value.int .i64 n) (.int .i64 m) with | true => some (Value.agg #[]) | false => mget (setM l) (.int .i64 n)) = _
  have ih := setM_get l n
  by_cases h : n = m
  ·subst h; simp [keyB]
  ·have : keyB (.int .i64 n) (.int .i64 m) = false := by simp [keyB, h]
   rw [this]; simp only [ih, List.mem_cons, h, false_or]
theorem setM_put : ∀ (l : List Int) (n : Int), n ∉ l → mput (setM l) (.int .i64 n) (.agg #[]) = setM (l ++ [n])
 | [], n, _ => rfl
 | m :: l, n, h => by
  have hne : n ≠ m := fun e => h (by simp [e])
  have hnl : n ∉ l := fun e => h (by simp [e])
  show (match keyB (Value.int .i64 n) (.int .i64 m) with | true => (Value.int .i64 n, Value.agg #[]) :: setM l | false => (Value.int .i64 m, Value.agg #[]) :: mput (setM l) (.int .i64 n) (.agg #[])) = _
  have : keyB (.int .i64 n) (.int .i64 m) = false := by simp [keyB, hne]
  rw [this]
  simp only [setM_put l n hnl]
  rfl
end Go.Isa
namespace Go.Isa
open Go Go.Sx
def intsV (l : List Int) : List Value := l.map fun n => .int .i64 n
theorem set_flat {α : Type} {f : α → List Value} {sz : Nat} (hf : ∀ x, (f x).length = sz) : ∀ (l : List α) (i k : Nat) (hi : i < l.length) (v : Value) (y : α), k < sz → (f l[i]).set k v = f y → (l.flatMap f).set (i * sz + k) v = (l.set i y).flatMap f
 | x :: l, 0, k, _, v, y, hk, h => by
  simp only [List.flatMap_cons, Nat.zero_mul, Nat.zero_add, List.set_cons_zero, List.getElem_cons_zero] at *
  rw [List.set_append_left _ _ (by rw [hf]; exact hk), h]
 | x :: l, i + 1, k, hi, v, y, hk, h => by
  simp only [List.flatMap_cons, List.set_cons_succ, List.getElem_cons_succ] at *
  rw [List.set_append_right _ _ (by rw [hf, Nat.add_mul]; omega), hf]
  rw [show (i + 1) * sz + k - sz = i * sz + k by rw [Nat.add_mul]; omega]
  rw [set_flat hf l i k (by simpa using hi) v y hk h]
theorem cellsI_set (l : List In) (i k : Nat) (hi : i < l.length) (v : Value) (y : In) (hk : k < 5) (h : (l[i]).cells.set k v = y.cells) : setn (cellsI l) (i * 5 + k) v = cellsI (l.set i y) := by
 rw [setn_eq]; exact set_flat (f := In.cells) (sz := 5) (fun _ => rfl) l i k hi v y hk h
def mixL {α : Type} (f : α → α) (l : List α) (i : Nat) : List α := (l.take i).map f ++ l.drop i
theorem mixL_len {α : Type} (f : α → α) (l : List α) (i : Nat) : (mixL f l i).length = l.length := by simp [mixL]; omega
theorem mixL_zero {α : Type} (f : α → α) (l : List α) : mixL f l 0 = l := by simp [mixL]
theorem mixL_all {α : Type} (f : α → α) (l : List α) : mixL f l l.length = l.map f := by simp [mixL]
theorem mixL_get {α : Type} (f : α → α) (l : List α) {i : Nat} (hi : i < l.length) : (mixL f l i)[i]'(by rw [mixL_len]; exact hi) = l[i] := by
 simp only [mixL]
 rw [List.getElem_append_right (by simp; omega)]
 simp [Nat.min_eq_left (Nat.le_of_lt hi)]
theorem mixL_succ {α : Type} (f : α → α) (l : List α) {i : Nat} (hi : i < l.length) : mixL f l (i + 1) = (mixL f l i).set i (f l[i]) := by
 simp only [mixL]
 rw [List.set_append_right _ _ (by simp; omega)]
 have hd : List.drop i l = l[i] :: l.drop (i + 1) := (List.getElem_cons_drop hi).symm
 rw [List.take_add_one, List.getElem?_eq_getElem hi, hd]
 simp only [List.map_append, List.length_map, List.length_take, Nat.min_eq_left (Nat.le_of_lt hi), Nat.sub_self, Option.toList_some, List.map_cons, List.map_nil, List.append_assoc, List.set_cons_zero, List.singleton_append]
theorem mixL_same {α : Type} (f : α → α) (l : List α) {i : Nat} (hi : i < l.length) (h : f l[i] = l[i]) : mixL f l (i + 1) = mixL f l i := by
 rw [mixL_succ f l hi, h]
 conv => lhs; rw [← mixL_get f l hi]
 simp
end Go.Isa
