/- Histories as values: events, pairs, attempts; an attempt's four blocks; a family of attempts. -/
import Derived.Test.YtnedgfkgmdoahaaHsPlain
import Derived.Test.YtnedgfkgmdoahaaSxGhost
set_option linter.unusedSimpArgs false
set_option linter.unusedVariables false
set_option linter.unnecessarySimpa false
namespace Go.Hs
open Go Go.Sx
def Ev.cells (e : Ev) : List Value := [.int .i64 e.kind, .int .i64 e.time, .int .i64 e.core, .int .i64 e.block, .int .i64 e.tr, .int .i64 e.lane, .int .i64 e.addr, .int .u64 e.value, .int .i64 e.code]
abbrev Ev.val (e : Ev) : Value := .agg e.cells.toArray
def Ev.sv (e : Ev) : List SV := [.val (.int .i64 e.kind), .val (.int .i64 e.time), .val (.int .i64 e.core), .val (.int .i64 e.block), .val (.int .i64 e.tr), .val (.int .i64 e.lane), .val (.int .i64 e.addr), .val (.int .u64 e.value), .val (.int .i64 e.code)]
theorem Ev.is (H : List SO) (e : Ev) : Is H (.agg e.sv) e.val := by simp only [Is]; exact ⟨e.cells, by simp [Ev.sv, Ev.cells, IsL, Is], rfl⟩
def cellsE (l : List Ev) : List Value := l.flatMap Ev.cells
theorem cellsE_len (l : List Ev) : (cellsE l).length = l.length * 9 := flat_len (f := Ev.cells) (sz := 9) (fun _ => rfl) l
theorem cellsE_get (l : List Ev) {i k : Nat} (hi : i < l.length) (hk : k < 9) : (cellsE l)[i * 9 + k]? = (l[i]).cells[k]? := flat_get (f := Ev.cells) (sz := 9) (fun _ => rfl) l hi hk
theorem cellsE_app (l m : List Ev) : cellsE (l ++ m) = cellsE l ++ cellsE m := by simp [cellsE]
def prV (p : Pr) : List Value := [.int .i64 p.1, .int .u64 p.2]
def cellsPr (l : List Pr) : List Value := l.flatMap prV
theorem cellsPr_len (l : List Pr) : (cellsPr l).length = l.length * 2 := flat_len (f := prV) (sz := 2) (fun _ => rfl) l
theorem cellsPr_get (l : List Pr) {i k : Nat} (hi : i < l.length) (hk : k < 2) : (cellsPr l)[i * 2 + k]? = (prV l[i])[k]? := flat_get (f := prV) (sz := 2) (fun _ => rfl) l hi hk
theorem cellsPr_app (l m : List Pr) : cellsPr (l ++ m) = cellsPr l ++ cellsPr m := by simp [cellsPr]
structure Hd where
 g : Nat
 t : Nat
 lA : Option Addr
 lc : Nat
 sA : Option Addr
 sc : Nat
deriving Inhabited
def cellsA (x : At) (h : Hd) : List Value := [.int .i64 x.core, .int .i64 x.block, .int .i64 x.tr, .int .i64 x.lane, .int .i64 x.frm, .int .i64 x.point, .int .i64 x.to, .slice h.lA x.loads.length h.lc, .slice h.sA x.stores.length h.sc, .bool x.com, .int .i64 x.code, .bool x.odd, .map (some h.t)]
def tcV (l : List Int) : List (Value × Value) := l.map fun a => (.int .i64 a, .int .i64 1)
def quad (TA TP : TypeId) (x : At) (h : Hd) : List SO := [.row h.g TA (cellsA x h), .map h.t (tcV x.touched), .own TP 0 2 h.lA x.loads.length h.lc (cellsPr x.loads), .own TP 0 2 h.sA x.stores.length h.sc (cellsPr x.stores)]
def famQ (TA TP : TypeId) (z : List (At × Hd)) : List SO := z.flatMap fun p => quad TA TP p.1 p.2
def ptrH (h : Hd) : Value := .pointer (some ⟨h.g, 0, none⟩)
def ptrs (z : List (At × Hd)) : List Value := z.map fun p => ptrH p.2
theorem ptrs_get {z : List (At × Hd)} {i : Nat} {p : At × Hd} (h : z[i]? = some p) : (ptrs z)[i]? = some (ptrH p.2) := by
 unfold ptrs; rw [List.getElem?_map, h]; rfl
theorem famQ_shut (TA TP : TypeId) (z : List (At × Hd)) : ∀ e ∈ famQ TA TP z, scpO 0 e = true := by
 intro e he
 unfold famQ at he
 obtain ⟨p, _, hp⟩ := List.mem_flatMap.1 he
 simp only [quad, List.mem_cons, List.not_mem_nil, or_false] at hp
 rcases hp with rfl | rfl | rfl | rfl <;> rfl
theorem quad_shut (TA TP : TypeId) (x : At) (h : Hd) : ∀ e ∈ quad TA TP x h, scpO 0 e = true := by
 intro e hp
 simp only [quad, List.mem_cons, List.not_mem_nil, or_false] at hp
 rcases hp with rfl | rfl | rfl | rfl <;> rfl
theorem perm_erase {α : Type} : ∀ {l : List α} {i : Nat} {a : α}, l[i]? = some a → l.Perm (a :: l.eraseIdx i)
 | b :: l, 0, a, h => by simp at h; subst h; exact .refl _
 | b :: l, i + 1, a, h => by
  have := perm_erase (l := l) (i := i) (a := a) (by simpa using h)
  exact (this.cons b).trans (List.Perm.swap a b _)
 | [], _, _, h => by simp at h
theorem perm_set {α : Type} : ∀ {l : List α} {i : Nat} {a : α}, i < l.length → (l.set i a).Perm (a :: l.eraseIdx i)
 | b :: l, 0, a, h => .refl _
 | b :: l, i + 1, a, h => by
  have := perm_set (l := l) (i := i) (a := a) (by simpa using h)
  exact (this.cons b).trans (List.Perm.swap a b _)
 | [], _, _, h => by simp at h
theorem famQ_out (TA TP : TypeId) {z : List (At × Hd)} {i : Nat} {x : At} {h : Hd} (hi : z[i]? = some (x, h)) : (famQ TA TP z).Perm (quad TA TP x h ++ famQ TA TP (z.eraseIdx i)) :=
 (perm_erase hi).flatMap_right _
theorem famQ_in (TA TP : TypeId) {z : List (At × Hd)} {i : Nat} (x : At) (h : Hd) (hi : i < z.length) : (quad TA TP x h ++ famQ TA TP (z.eraseIdx i)).Perm (famQ TA TP (z.set i (x, h))) :=
 ((perm_set (a := (x, h)) hi).flatMap_right (fun p : At × Hd => quad TA TP p.1 p.2)).symm
theorem famQ_snoc (TA TP : TypeId) (z : List (At × Hd)) (x : At) (h : Hd) : famQ TA TP (z ++ [(x, h)]) = famQ TA TP z ++ quad TA TP x h := by
 simp [famQ]
theorem ptrs_snoc (z : List (At × Hd)) (x : At) (h : Hd) : ptrs (z ++ [(x, h)]) = ptrs z ++ [ptrH h] := by simp [ptrs]
theorem ptrs_set {z : List (At × Hd)} {i : Nat} {p : At × Hd} (hi : z[i]? = some p) (x : At) (h : Hd) (hg : h.g = p.2.g) : ptrs (z.set i (x, h)) = ptrs z := by
 unfold ptrs
 rw [List.map_set]
 apply List.ext_getElem?
 intro j
 rw [List.getElem?_set, List.getElem?_map]
 by_cases e : i = j
 ·subst e
  rw [if_pos rfl, hi]
  have := (List.getElem?_eq_some_iff.1 hi).1
  simp [this, ptrH, hg]
 ·rw [if_neg e]
theorem famQ_mem (TA TP : TypeId) {z : List (At × Hd)} {p : At × Hd} (hp : p ∈ z) : ∀ e ∈ quad TA TP p.1 p.2, e ∈ famQ TA TP z := fun e he => List.mem_flatMap.2 ⟨p, hp, he⟩
def cellsT (x : At) (h : Hd) : List Value := [.int .i64 x.core, .int .i64 x.block, .int .i64 x.tr, .int .i64 x.lane, .int .i64 x.frm, .int .i64 x.point, .int .i64 x.to, .slice h.lA x.loads.length h.lc, .slice h.sA x.stores.length h.sc, .bool x.com, .int .i64 x.code]
def cellsTs (z : List (At × Hd)) : List Value := z.flatMap fun p => cellsT p.1 p.2
def opV (z : List (At × Hd)) (op : List (Int × Nat)) : List (Value × Value) := op.map fun p => (.int .i64 p.1, (ptrs z).getD p.2 (.pointer none))
theorem keyB_int (a b : Int) : keyB (.int .i64 a) (.int .i64 b) = (a == b) := rfl
theorem mget_op (z : List (At × Hd)) : ∀ (op : List (Int × Nat)) (c : Int), mget (opV z op) (.int .i64 c) = (opGet op c).map fun i => (ptrs z).getD i (.pointer none)
 | [], _ => rfl
 | (q, v) :: op, c => by
  have ih := mget_op z op c
  simp only [opV, List.map_cons, mget, keyB_int, opGet] at ih ⊢
  by_cases e : c = q
  ·subst e; simp
  ·have : (c == q) = false := by simpa using e
   simp only [this, if_neg e]; exact ih
theorem mrem_op (z : List (At × Hd)) : ∀ (op : List (Int × Nat)) (c : Int), mrem (opV z op) (.int .i64 c) = opV z (opDel op c)
 | [], _ => rfl
 | (q, v) :: op, c => by
  have ih := mrem_op z op c
  simp only [opV, List.map_cons, mrem, keyB_int, opDel] at ih ⊢
  by_cases e : c = q
  ·subst e; simp
  ·have : (c == q) = false := by simpa using e
   simp only [this, if_neg e]; rw [ih]; rfl
theorem mput_op (z : List (At × Hd)) : ∀ (op : List (Int × Nat)) (c : Int) (u : Value), opGet op c = none → mput (opV z op) (.int .i64 c) u = opV z op ++ [(.int .i64 c, u)]
 | [], _, _, _ => rfl
 | (q, v) :: op, c, u, h => by
  simp only [opGet] at h
  split at h
  ·cases h
  ·rename_i e
   have ih := mput_op z op c u h
   have : (c == q) = false := by simpa using e
   simp only [opV, List.map_cons, mput, keyB_int, this] at ih ⊢
   rw [ih]; rfl
theorem opV_eq {z z' : List (At × Hd)} (op : List (Int × Nat)) (h : ptrs z' = ptrs z) : opV z' op = opV z op := by unfold opV; rw [h]
theorem opV_snoc {z : List (At × Hd)} (op : List (Int × Nat)) (p : At × Hd) (h : ∀ q ∈ op, q.2 < z.length) : opV (z ++ [p]) op = opV z op := by
 unfold opV
 refine List.map_congr_left fun q hq => ?_
 have := h q hq
 rw [List.getD_eq_getElem?_getD, List.getD_eq_getElem?_getD]
 simp only [ptrs, List.map_append]
 rw [List.getElem?_append_left (by simpa using this)]
theorem mput_tc : ∀ (l : List Int) (a : Int), mput (tcV l) (.int .i64 a) (.int .i64 1) = tcV (tch l a)
 | [], _ => rfl
 | b :: l, a => by
  have ih := mput_tc l a
  simp only [tcV, List.map_cons, mput, keyB_int] at ih ⊢
  by_cases e : a = b
  ·subst e; simp [tch]
  ·have : (a == b) = false := by simpa using e
   simp only [this]; rw [ih]
   unfold tch
   by_cases h : a ∈ l
   ·rw [if_pos h, if_pos (List.mem_cons_of_mem _ h)]; rfl
   ·rw [if_neg h, if_neg (by simp [e, h])]; rfl
theorem tcV_keys (l : List Int) : ∀ p ∈ tcV l, keyIs (.int .i64) p.1 = true := by
 intro p hp
 obtain ⟨a, _, rfl⟩ := List.mem_map.1 hp
 rfl
theorem opV_keys (z : List (At × Hd)) (op : List (Int × Nat)) : ∀ p ∈ opV z op, keyIs (.int .i64) p.1 = true := by
 intro p hp
 obtain ⟨a, _, rfl⟩ := List.mem_map.1 hp
 rfl
end Go.Hs
