/- Caches, plainly: entries, slots; their cells. -/
import Derived.Test.YtimmobbginjkfaaSxGhost
set_option linter.unusedSimpArgs false
set_option linter.unusedVariables false
set_option linter.unnecessarySimpa false
namespace Go.Ca
open Go Go.Sx
structure En where
 line : Int
 st : Int
 rd : Bool
 wr : Bool
 d : Nat → Int
 o : Nat → Int
 used : Int
def zF : Nat → Int := fun _ => 0
def zE : En := ⟨0, 0, false, false, zF, zF, 0⟩
instance : Inhabited En := ⟨zE⟩
def enV (e : En) : List Value := [.int .i64 e.line, .int .i64 e.st, .bool e.rd, .bool e.wr, .int .u64 (e.d 0), .int .u64 (e.d 1), .int .u64 (e.d 2), .int .u64 (e.d 3), .int .u64 (e.d 4), .int .u64 (e.d 5), .int .u64 (e.d 6), .int .u64 (e.d 7),
 .int .u64 (e.o 0), .int .u64 (e.o 1), .int .u64 (e.o 2), .int .u64 (e.o 3), .int .u64 (e.o 4), .int .u64 (e.o 5), .int .u64 (e.o 6), .int .u64 (e.o 7), .int .i64 e.used]
def slV (n : Nat) (f : Nat → En) : List Value := ((List.range n).map f).flatMap enV
theorem slV_len (n : Nat) (f : Nat → En) : (slV n f).length = n * 21 := by
 unfold slV; rw [flat_len (f := enV) (sz := 21) (fun _ => rfl)]; simp
theorem slV_get {n i k : Nat} (f : Nat → En) (hi : i < n) (hk : k < 21) : (slV n f)[i * 21 + k]? = (enV (f i))[k]? := by
 unfold slV
 rw [flat_get (f := enV) (sz := 21) (fun _ => rfl) _ (by simpa using hi) hk]
 simp
theorem slV_at {n i k : Nat} {f : Nat → En} {v : Value} (hi : i < n) (h : (enV (f i))[k]? = some v) : (slV n f)[i * 21 + k]? = some v := by
 rw [slV_get f hi (List.getElem?_eq_some_iff.1 h).1]; exact h
theorem slV_atm {n i m : Nat} (k : Nat) {f : Nat → En} {v : Value} (hi : i < n) (hm : m = i * 21 + k) (h : (enV (f i))[k]? = some v) : (slV n f)[m]? = some v := by
 rw [hm]; exact slV_at hi h
theorem slV_congr {n : Nat} {f g : Nat → En} (h : ∀ k, k < n → f k = g k) : slV n f = slV n g := by
 unfold slV
 rw [List.map_congr_left fun k hk => h k (List.mem_range.1 hk)]
def upd (f : Nat → En) (i : Nat) (e : En) : Nat → En := fun j => if j = i then e else f j
theorem upd_at (f : Nat → En) (i : Nat) (e : En) : upd f i e i = e := by simp [upd]
theorem upd_ne (f : Nat → En) {i j : Nat} (e : En) (h : j ≠ i) : upd f i e j = f j := by simp [upd, h]
theorem slV_splice {n i k : Nat} {f : Nat → En} {us : List Value} {e : En} (hi : i < n) (hk : k + us.length ≤ 21) (he : splice (enV (f i)) k us = enV e) : splice (slV n f) (i * 21 + k) us = slV n (upd f i e) := by
 have hlen : i * 21 + k + us.length ≤ (slV n f).length := by rw [slV_len]; omega
 apply List.ext_getElem?
 intro j
 rw [splice_get _ _ _ _ hlen]
 by_cases hj : j < n * 21
 ·have hq : j / 21 < n := by omega
  have hr : j % 21 < 21 := by omega
  have e1 : j = j / 21 * 21 + j % 21 := by omega
  have g1 : (slV n (upd f i e))[j]? = (enV (upd f i e (j / 21)))[j % 21]? := by rw [← slV_get _ hq hr, ← e1]
  have g2 : (slV n f)[j]? = (enV (f (j / 21)))[j % 21]? := by rw [← slV_get _ hq hr, ← e1]
  rw [g1, g2]
  have hb := splice_get (enV (f i)) k us (j % 21) (by simpa [enV] using hk)
  by_cases hji : j / 21 = i
  ·rw [hji, upd_at, ← he, hb]
   by_cases hc : k ≤ j % 21 ∧ j % 21 < k + us.length
   ·rw [if_pos hc, if_pos (by omega), show j - (i * 21 + k) = j % 21 - k by omega]
   ·rw [if_neg hc, if_neg (by omega)]
  ·rw [upd_ne f e hji, if_neg (by omega)]
 ·rw [if_neg (by omega), List.getElem?_eq_none (by rw [slV_len]; omega), List.getElem?_eq_none (by rw [slV_len]; omega)]
theorem slV_zero (n : Nat) : repN n (enV zE) = slV n fun _ => zE := by
 induction n with
 | zero => rfl
 | succ n ih =>
  have e : slV (n + 1) (fun _ => zE) = enV zE ++ slV n fun _ => zE := by
   unfold slV
   rw [List.range_succ_eq_map]
   simp [List.map_map, Function.comp_def]
  rw [e, ← ih]; rfl
structure Ca where
 sets : Nat
 ways : Nat
 uses : Int
 sl : Nat → En
def Ca.n (c : Ca) : Nat := c.sets * c.ways
structure CaOk (c : Ca) : Prop where
 s1 : 1 ≤ c.sets
 s8 : c.sets ≤ 8
 w1 : 1 ≤ c.ways
 w4 : c.ways ≤ 4
 u0 : 0 ≤ c.uses
 u1 : c.uses ≤ 1000000
theorem CaOk.n32 {c : Ca} (h : CaOk c) : c.n ≤ 32 := by
 have := Nat.mul_le_mul h.s8 h.w4
 unfold Ca.n; omega
def Ca.from (c : Ca) (line : Int) : Nat := line.toNat % c.sets * c.ways
theorem Ca.from_lt {c : Ca} (h : CaOk c) (line : Int) {i : Nat} (hi : i < c.ways) : c.from line + i < c.n := by
 have h1 : line.toNat % c.sets < c.sets := Nat.mod_lt _ h.s1
 have h2 : (line.toNat % c.sets + 1) * c.ways ≤ c.sets * c.ways := Nat.mul_le_mul_right _ h1
 rw [Nat.add_mul, Nat.one_mul] at h2
 unfold Ca.from Ca.n; omega
def hitB (line : Int) (e : En) : Bool := e.st != 0 && e.line == line
def atTo (c : Ca) (line : Int) : Nat → Option Nat
 | 0 => none
 | i + 1 => match atTo c line i with
  | some k => some k
  | none => if hitB line (c.sl (c.from line + i)) then some (c.from line + i) else none
def atC (c : Ca) (line : Int) : Option Nat := if line < 0 then none else atTo c line c.ways
theorem atTo_some {c : Ca} {line : Int} {i j : Nat} (h : atTo c line i = some j) : ∀ {m : Nat}, i ≤ m → atTo c line m = some j
 | 0, hm => by
  have : i = 0 := by omega
  subst this; exact h
 | m + 1, hm => by
  by_cases e : i = m + 1
  ·subst e; exact h
  ·simp only [atTo]; rw [atTo_some h (m := m) (by omega)]
theorem atTo_lt {c : Ca} (ok : CaOk c) {line : Int} : ∀ {i j : Nat}, i ≤ c.ways → atTo c line i = some j → j < c.n ∧ hitB line (c.sl j) = true ∧ c.from line ≤ j ∧ j < c.from line + c.ways
 | 0, _, _, h => by simp [atTo] at h
 | i + 1, j, hi, h => by
  simp only [atTo] at h
  cases hq : atTo c line i with
  | some k => rw [hq] at h; injection h with h; subst h; exact atTo_lt ok (by omega) hq
  | none =>
   rw [hq] at h
   simp only at h
   split at h
   ·rename_i hh
    injection h with h; subst h
    exact ⟨Ca.from_lt ok line (by omega), hh, by omega, by omega⟩
   ·cases h
theorem atC_lt {c : Ca} (ok : CaOk c) {line : Int} {j : Nat} (h : atC c line = some j) : j < c.n ∧ hitB line (c.sl j) = true ∧ c.from line ≤ j ∧ j < c.from line + c.ways := by
 unfold atC at h
 split at h
 ·cases h
 ·exact atTo_lt ok (Nat.le_refl _) h
def caF (gc gs : Nat) (c : Ca) : List SO := [.cells gc 66 [.val (.int .i64 c.sets), .val (.int .i64 c.ways), .slc 1 0 c.n c.n, .val (.int .i64 c.uses)], .row gs 44 (slV c.n c.sl)]
theorem caF_ext (gc gs : Nat) (c c' : Ca) : HExt (caF gc gs c) (caF gc gs c') := by
 have h1 : HExt (caF gc gs c) (setn (caF gc gs c) 0 (.cells gc 66 [.val (.int .i64 c'.sets), .val (.int .i64 c'.ways), .slc 1 0 c'.n c'.n, .val (.int .i64 c'.uses)])) := HExt.setBlk (i := 0) (e := .cells gc 66 [.val (.int .i64 c.sets), .val (.int .i64 c.ways), .slc 1 0 c.n c.n, .val (.int .i64 c.uses)]) rfl rfl rfl
 have h2 : HExt (setn (caF gc gs c) 0 (.cells gc 66 [.val (.int .i64 c'.sets), .val (.int .i64 c'.ways), .slc 1 0 c'.n c'.n, .val (.int .i64 c'.uses)])) (caF gc gs c') := HExt.setBlk (i := 1) (e := .row gs 44 (slV c.n c.sl)) rfl rfl rfl
 exact h1.trans' h2
theorem caF_scp (gc gs : Nat) (c : Ca) : (caF gc gs c).all (scpO 2) = true := rfl
theorem caF_pre (gc gs : Nat) (c : Ca) : ∀ e ∈ caF gc gs c, scpO (caF gc gs c).length e = true := fun e he => List.all_eq_true.1 (caF_scp gc gs c) e he
theorem mulOk {a b r : Int} (h : a * b = r) (h1 : -9223372036854775808 ≤ r) (h2 : r ≤ 9223372036854775807) : ArOk .mul .i64 a b r := by
 subst h
 show a * b = IntKind.i64.wrap (a * b)
 rw [IntKind.wrap_i64] <;> omega
theorem from_eq (c : Ca) (L : Nat) : ((L : Int) % (c.sets : Int)) * (c.ways : Int) = ((c.from (L : Int) : Nat) : Int) := by
 unfold Ca.from
 rw [Int.toNat_natCast]
 simp [Int.natCast_emod, Int.natCast_mul]
theorem heapJoin {E : Env} {H H2 H2' : List SO} {W W' : World} {nt : Nat} {mk : List Nat} (h : HeapOk E H W) (k : HeapOk ⟨W, W.heap.size, [], nt, mk⟩ H2 W') (hfp : H2'.map SO.fp = H2.map SO.fp) (he : ∀ e ∈ H2', EntryOk (H ++ H2') (fun g => W'.heap[g]?) e) : HeapOk E (H ++ H2') W' := by
 have old1 : ∀ j, E.old j → Env.old ⟨W, W.heap.size, [], nt, mk⟩ j := fun j hj => ⟨Nat.lt_of_lt_of_le hj.1 h.floor, by simp⟩
 have fr2 : ∀ e ∈ H2', ∀ g, e.fp = some g → W.heap.size ≤ g ∧ g < W'.heap.size := fun e hm g hg => by
  have : some g ∈ H2.map SO.fp := by rw [← hfp, ← hg]; exact List.mem_map_of_mem hm
  obtain ⟨e2, h2, h3⟩ := List.mem_map.1 this
  obtain ⟨h4, h5⟩ := k.fr h2 h3
  refine ⟨Nat.le_of_not_lt fun hl => h5 ⟨hl, by simp⟩, h4⟩
 refine HeapOk.mk' (h.keep.trans (k.keep.mono old1)) (Nat.le_trans h.floor k.floor) (fun e hm => ?_) (fun e hm g hg => ?_) ?_
 ·rcases List.mem_append.1 hm with h1 | h1
  ·exact (h.ent h1).mono (HExt.app _ _) fun g hg => k.keep.block g ⟨(h.fr h1 hg).1, by simp⟩
  ·exact he e h1
 ·rcases List.mem_append.1 hm with h1 | h1
  ·exact ⟨Nat.lt_of_lt_of_le (h.fr h1 hg).1 k.floor, (h.fr h1 hg).2⟩
  ·obtain ⟨h2, h3⟩ := fr2 e h1 g hg
   exact ⟨h3, fun ho => absurd (Nat.lt_of_lt_of_le ho.1 h.floor) (by omega)⟩
 ·rw [List.pairwise_append]
  refine ⟨h.apart, ?_, fun e he' e2 he2 g hg hg2 => ?_⟩
  ·have h1 : (H2.map SO.fp).Pairwise fun x y => ∀ g, x = some g → y ≠ some g := List.pairwise_map.2 k.apart
   rw [← hfp, List.pairwise_map] at h1
   exact h1
  ·have h1 := (h.fr he' hg).1
   have h2 := (fr2 e2 he2 g hg2).1
   omega
end Go.Ca
