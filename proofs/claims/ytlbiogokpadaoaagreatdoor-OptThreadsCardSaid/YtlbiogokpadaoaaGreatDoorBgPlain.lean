/- Plain words of opt: what a jump is, where it leads. -/
import Derived.Test.YtlbiogokpadaoaaGreatDoorIdSpec
set_option linter.unusedSimpArgs false
set_option linter.unusedVariables false
set_option linter.unnecessarySimpa false
namespace Go.Isa
open Go Go.Sx

def goK (x : In) : Int := if legalB x = true ∧ 0 ≤ x.imm ∧ x.imm ≤ 1024 then (if x.op = 13 then 1 else if 14 ≤ x.op ∧ x.op ≤ 16 then 2 else 0) else 0
theorem goK_imm {x : In} (h : goK x ≠ 0) : 0 ≤ x.imm ∧ x.imm ≤ 1024 := by
  unfold goK at h
  split at h
  · rename_i h'; exact h'.2
  · exact absurd rfl h

def thr (cs : List In) : Nat → List Int → Int → Int
  | 0, _, p => p
  | n + 1, led, p => match cs[p.toNat]? with
    | none => p
    | some x => if goK x = 1 ∧ x.imm ∉ p :: led then thr cs n (p :: led) x.imm else p
def thrI (cs : List In) (x : In) : In := if goK x = 0 then x else { x with imm := thr cs cs.length [] x.imm }
def threadL (cs : List In) : List In := cs.map (thrI cs)
theorem threadL_len (cs : List In) : (threadL cs).length = cs.length := by simp [threadL]

structure LedOk (cs : List In) (led : List Int) (p : Int) : Prop where
  nd : led.Nodup
  rg : ∀ q ∈ led, 0 ≤ q ∧ q < cs.length
  no : p ∉ led
  p0 : 0 ≤ p

theorem nodup_range : ∀ (n : Nat) (l : List Int), l.Nodup → (∀ q ∈ l, 0 ≤ q ∧ q < (n : Int)) → l.length ≤ n
  | 0, l, _, h => by
    cases l with
    | nil => simp
    | cons x l => have := h x (by simp); omega
  | n + 1, l, hn, h => by
    have h1 : (l.erase (n : Int)).length ≤ n := by
      refine nodup_range n _ (hn.erase _) fun q hq => ?_
      have hq' := List.mem_of_mem_erase hq
      have := h q hq'
      have hne : q ≠ (n : Int) := fun e => by subst e; exact (List.Nodup.not_mem_erase hn) hq
      omega
    have h2 : l.length ≤ (l.erase (n : Int)).length + 1 := by
      rcases Classical.em ((n : Int) ∈ l) with hm | hm
      · rw [List.length_erase_of_mem hm]; omega
      · rw [List.erase_of_not_mem hm]; omega
    omega
theorem LedOk.len {cs : List In} {led : List Int} {p : Int} (h : LedOk cs led p) : led.length ≤ cs.length := nodup_range _ _ h.nd h.rg
theorem LedOk.step {cs : List In} {led : List Int} {p : Int} (h : LedOk cs led p) (hp : p < cs.length) {q : Int} (hq : q ∉ p :: led) (h0 : 0 ≤ q) : LedOk cs (p :: led) q where
  nd := List.nodup_cons.2 ⟨h.no, h.nd⟩
  rg r hr := by
    rcases List.mem_cons.1 hr with rfl | hr
    · exact ⟨h.p0, hp⟩
    · exact h.rg r hr
  no := hq
  p0 := h0
theorem at_of {cs : List In} {p : Int} {x : In} (h0 : 0 ≤ p) (h : cs[p.toNat]? = some x) : p < cs.length := by
  have := (List.getElem?_eq_some_iff.1 h).1; omega
theorem thr_more (cs : List In) : ∀ (n : Nat) (led : List Int) (p : Int), LedOk cs led p → cs.length ≤ led.length + n → thr cs (n + 1) led p = thr cs n led p
  | 0, led, p, h, hn => by
    show (match cs[p.toNat]? with | none => p | some x => if goK x = 1 ∧ x.imm ∉ p :: led then thr cs 0 (p :: led) x.imm else p) = p
    split
    · rfl
    · rename_i x hx
      have hp := at_of h.p0 hx
      have := nodup_range cs.length (p :: led) (List.nodup_cons.2 ⟨h.no, h.nd⟩) (fun r hr => by
        rcases List.mem_cons.1 hr with rfl | hr
        · exact ⟨h.p0, hp⟩
        · exact h.rg r hr)
      simp at this; omega
  | n + 1, led, p, h, hn => by
    rw [thr]
    conv => rhs; rw [thr]
    split
    · rfl
    · rename_i x hx
      split
      · rename_i hc
        exact thr_more cs n _ _ (h.step (at_of h.p0 hx) hc.2 (goK_imm (by rw [hc.1]; decide)).1) (by simp; omega)
      · rfl
theorem thr_end {cs : List In} {n : Nat} {led : List Int} {p : Int} (h : cs[p.toNat]? = none) : thr cs n led p = p := by
  cases n with
  | zero => rfl
  | succ n => rw [thr, h]
theorem thr_stop {cs : List In} {n : Nat} {led : List Int} {p : Int} {x : In} (hx : cs[p.toNat]? = some x) (h : ¬ (goK x = 1 ∧ x.imm ∉ p :: led)) : thr cs n led p = p := by
  cases n with
  | zero => rfl
  | succ n => rw [thr, hx]; simp only [if_neg h]
theorem thr_on {cs : List In} {n : Nat} {led : List Int} {p : Int} {x : In} (hx : cs[p.toNat]? = some x) (h : goK x = 1 ∧ x.imm ∉ p :: led) : thr cs (n + 1) led p = thr cs n (p :: led) x.imm := by
  rw [thr, hx]; simp only [if_pos h]
theorem thr_all {cs : List In} {led : List Int} {p : Int} {x : In} (hl : LedOk cs led p) (hx : cs[p.toNat]? = some x) (h : goK x = 1 ∧ x.imm ∉ p :: led) : thr cs cs.length led p = thr cs cs.length (p :: led) x.imm := by
  rw [← thr_more cs cs.length led p hl (by omega), thr_on hx h]
theorem thr_rg (cs : List In) : ∀ (n : Nat) (led : List Int) (p : Int), 0 ≤ p → p ≤ 1024 → 0 ≤ thr cs n led p ∧ thr cs n led p ≤ 1024
  | 0, _, p, h0, h1 => ⟨h0, h1⟩
  | n + 1, led, p, h0, h1 => by
    rw [thr]
    split
    · exact ⟨h0, h1⟩
    · rename_i x hx
      split
      · rename_i hc
        have := goK_imm (x := x) (by rw [hc.1]; decide)
        exact thr_rg cs n _ _ this.1 this.2
      · exact ⟨h0, h1⟩

def setM (l : List Int) : List (Value × Value) := l.map fun n => (.int .i64 n, .agg #[])
theorem setM_keys (l : List Int) : ∀ p ∈ setM l, keyIs (.int .i64) p.1 = true := by
  intro p hp
  simp only [setM, List.mem_map] at hp
  obtain ⟨n, _, rfl⟩ := hp; rfl
theorem setM_get : ∀ (l : List Int) (n : Int), mget (setM l) (.int .i64 n) = if n ∈ l then some (.agg #[]) else none
  | [], n => by simp [setM, mget]
  | m :: l, n => by
    show (match keyB (Value.int .i64 n) (.int .i64 m) with | true => some (Value.agg #[]) | false => mget (setM l) (.int .i64 n)) = _
    have ih := setM_get l n
    by_cases h : n = m
    · subst h; simp [keyB]
    · have : keyB (.int .i64 n) (.int .i64 m) = false := by simp [keyB, h]
      rw [this]; simp only [ih, List.mem_cons, h, false_or]
theorem setM_put : ∀ (l : List Int) (n : Int), n ∉ l → mput (setM l) (.int .i64 n) (.agg #[]) = setM (l ++ [n])
  | [], n, _ => rfl
  | m :: l, n, h => by
    have hne : n ≠ m := fun e => h (by simp [e])
    have hnl : n ∉ l := fun e => h (by simp [e])
    show (match keyB (Value.int .i64 n) (.int .i64 m) with | true => (Value.int .i64 n, Value.agg #[]) :: setM l | false => (Value.int .i64 m, Value.agg #[]) :: mput (setM l) (.int .i64 n) (.agg #[])) = _
    have : keyB (.int .i64 n) (.int .i64 m) = false := by simp [keyB, hne]
    rw [this]
    simp only [setM_put l n hnl]
    rfl
end Go.Isa
namespace Go.Isa
open Go Go.Sx
def intsV (l : List Int) : List Value := l.map fun n => .int .i64 n
theorem set_flat {α : Type} {f : α → List Value} {sz : Nat} (hf : ∀ x, (f x).length = sz) : ∀ (l : List α) (i k : Nat) (hi : i < l.length) (v : Value) (y : α), k < sz → (f l[i]).set k v = f y → (l.flatMap f).set (i * sz + k) v = (l.set i y).flatMap f
  | x :: l, 0, k, _, v, y, hk, h => by
    simp only [List.flatMap_cons, Nat.zero_mul, Nat.zero_add, List.set_cons_zero, List.getElem_cons_zero] at *
    rw [List.set_append_left _ _ (by rw [hf]; exact hk), h]
  | x :: l, i + 1, k, hi, v, y, hk, h => by
    simp only [List.flatMap_cons, List.set_cons_succ, List.getElem_cons_succ] at *
    rw [List.set_append_right _ _ (by rw [hf, Nat.add_mul]; omega), hf]
    rw [show (i + 1) * sz + k - sz = i * sz + k by rw [Nat.add_mul]; omega]
    rw [set_flat hf l i k (by simpa using hi) v y hk h]
theorem cellsI_set (l : List In) (i k : Nat) (hi : i < l.length) (v : Value) (y : In) (hk : k < 5) (h : (l[i]).cells.set k v = y.cells) : setn (cellsI l) (i * 5 + k) v = cellsI (l.set i y) := by
  rw [setn_eq]; exact set_flat (f := In.cells) (sz := 5) (fun _ => rfl) l i k hi v y hk h
def mixL {α : Type} (f : α → α) (l : List α) (i : Nat) : List α := (l.take i).map f ++ l.drop i
theorem mixL_len {α : Type} (f : α → α) (l : List α) (i : Nat) : (mixL f l i).length = l.length := by simp [mixL]; omega
theorem mixL_zero {α : Type} (f : α → α) (l : List α) : mixL f l 0 = l := by simp [mixL]
theorem mixL_all {α : Type} (f : α → α) (l : List α) : mixL f l l.length = l.map f := by simp [mixL]
theorem mixL_get {α : Type} (f : α → α) (l : List α) {i : Nat} (hi : i < l.length) : (mixL f l i)[i]'(by rw [mixL_len]; exact hi) = l[i] := by
  simp only [mixL]
  rw [List.getElem_append_right (by simp; omega)]
  simp [Nat.min_eq_left (Nat.le_of_lt hi)]
theorem mixL_succ {α : Type} (f : α → α) (l : List α) {i : Nat} (hi : i < l.length) : mixL f l (i + 1) = (mixL f l i).set i (f l[i]) := by
  simp only [mixL]
  rw [List.set_append_right _ _ (by simp; omega)]
  have hd : List.drop i l = l[i] :: l.drop (i + 1) := (List.getElem_cons_drop hi).symm
  rw [List.take_add_one, List.getElem?_eq_getElem hi, hd]
  simp only [List.map_append, List.length_map, List.length_take, Nat.min_eq_left (Nat.le_of_lt hi), Nat.sub_self, Option.toList_some, List.map_cons, List.map_nil, List.append_assoc, List.set_cons_zero, List.singleton_append]
theorem mixL_same {α : Type} (f : α → α) (l : List α) {i : Nat} (hi : i < l.length) (h : f l[i] = l[i]) : mixL f l (i + 1) = mixL f l i := by
  rw [mixL_succ f l hi, h]
  conv => lhs; rw [← mixL_get f l hi]
  simp
end Go.Isa
