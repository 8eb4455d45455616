/- New entries, lent maps; a split's attempts as old memory. -/
import Derived.Test.YtbkpiljencaoeaaGHsJ4
import Derived.Test.YtbkpiljencaoeaaGHsW5
import Derived.Test.YtbkpiljencaoeaaGHsCodeJ
set_option linter.unusedSimpArgs false
set_option linter.unusedVariables false
set_option linter.unnecessarySimpa false
namespace Go.Proofs.Ytbkpiljencaoeaa
open Go Go.Sx Go.Hs
set_option maxRecDepth 100000
theorem ret_rvn {P : Program} {fn : Func} {keep : List Nat} {tab : Nat → XC} {R : Value → World → Prop} {E : Env} {s : SS} {rs : List RV} {vs : List Value} (hr : rvOf P fn.results.toList = some rs) (hm : E.marks = [])
  (hv : denR s.H s.F rs = some vs) (h : ∀ W, HeapOk E s.H W → R (tupOf vs) W) : RetG (cxM P fn keep tab R) E s := by
 intro a W rep
 have hd : a.defers = [] := by rw [rep.defers, hm]; rfl
 show LeavesInM _ _ _ _ _ _ a.defers .returning W
 rw [hd]
 exact ⟨_, run_resultsR rep hr hv, h W rep.heap⟩
theorem heapJoin {E : Env} {H H2 H2' : List SO} {W W' : World} {nt : Nat} {mk : List Nat} (h : HeapOk E H W) (k : HeapOk ⟨W, W.heap.size, [], nt, mk⟩ H2 W') (hfp : H2'.map SO.fp = H2.map SO.fp) (he : ∀ e ∈ H2', EntryOk (H ++ H2') (fun g => W'.heap[g]?) e) : HeapOk E (H ++ H2') W' := by
 have old1 : ∀ j, E.old j → Env.old ⟨W, W.heap.size, [], nt, mk⟩ j := fun j hj => ⟨Nat.lt_of_lt_of_le hj.1 h.floor, by simp⟩
 have fr2 : ∀ e ∈ H2', ∀ g, e.fp = some g → W.heap.size ≤ g ∧ g < W'.heap.size := fun e hm g hg => by
  have : some g ∈ H2.map SO.fp := by rw [← hfp, ← hg]; exact List.mem_map_of_mem hm
  obtain ⟨e2, h2, h3⟩ := List.mem_map.1 this
  obtain ⟨h4, h5⟩ := k.fr h2 h3
  refine ⟨Nat.le_of_not_lt fun hl => h5 ⟨hl, by simp⟩, h4⟩
 refine HeapOk.mk' (h.keep.trans (k.keep.mono old1)) (Nat.le_trans h.floor k.floor) (fun e hm => ?_) (fun e hm g hg => ?_) ?_
 ·rcases List.mem_append.1 hm with h1 | h1
  ·exact (h.ent h1).mono (HExt.app _ _) fun g hg => k.keep.block g ⟨(h.fr h1 hg).1, by simp⟩
  ·exact he e h1
 ·rcases List.mem_append.1 hm with h1 | h1
  ·exact ⟨Nat.lt_of_lt_of_le (h.fr h1 hg).1 k.floor, (h.fr h1 hg).2⟩
  ·obtain ⟨h2, h3⟩ := fr2 e h1 g hg
   exact ⟨h3, fun ho => absurd (Nat.lt_of_lt_of_le ho.1 h.floor) (by omega)⟩
 ·rw [List.pairwise_append]
  refine ⟨h.apart, ?_, fun e he' e2 he2 g hg hg2 => ?_⟩
  ·have h1 : (H2.map SO.fp).Pairwise fun x y => ∀ g, x = some g → y ≠ some g := List.pairwise_map.2 k.apart
   rw [← hfp, List.pairwise_map] at h1
   exact h1
  ·have h1 := (h.fr he' hg).1
   have h2 := (fr2 e2 he2 g hg2).1
   omega
def SpE (E : Env) (B : Option Addr) (z : List (At × Hd)) : Prop :=
 RowE E B (ptrs z) ∧ ∀ p ∈ z, RowE E (some ⟨p.2.g, 0, none⟩) (cellsA p.1 p.2) ∧ RowE E p.2.lA (cellsPr p.1.loads) ∧ RowE E p.2.sA (cellsPr p.1.stores)
theorem SpE.env {E E' : Env} (hb : E'.b = E.b) (hN : E'.N = E.N) (hs : E'.stolen = E.stolen) {B : Option Addr} {z : List (At × Hd)} (h : SpE E B z) : SpE E' B z :=
 ⟨h.1.env hb hN hs, fun p hp => ⟨(h.2 p hp).1.env hb hN hs, (h.2 p hp).2.1.env hb hN hs, (h.2 p hp).2.2.env hb hN hs⟩⟩
theorem SpE.over {E E' : Env} {B : Option Addr} {z : List (At × Hd)} (h : SpE E B z) (o : Over E E') : SpE E' B z :=
 ⟨h.1.over o, fun p hp => ⟨(h.2 p hp).1.over o, (h.2 p hp).2.1.over o, (h.2 p hp).2.2.over o⟩⟩
theorem spE_of {W W' : World} {B : Option Addr} {bc : Nat} {z : List (At × Hd)} (hh : HeapOk ⟨W, W.heap.size, [], 67, []⟩ ([.own 94 0 1 B z.length bc (ptrs z)] ++ famQ 114 85 z) W') {st : List Nat} (hst : ∀ g ∈ st, g < W.heap.size) (nt : Nat) (mk : List Nat) :
  SpE ⟨W', W'.heap.size, st, nt, mk⟩ B z := by
 refine ⟨ownsB_rowE (hh.owns (i := 0) rfl) hst nt mk, fun p hp => ?_⟩
 have at' : ∀ e ∈ quad 114 85 p.1 p.2, ∃ i, nth ([SO.own 94 0 1 B z.length bc (ptrs z)] ++ famQ 114 85 z) i = some e := fun e he => by
  have hm := List.mem_append_right [SO.own 94 0 1 B z.length bc (ptrs z)] (famQ_mem 114 85 hp e he)
  obtain ⟨i, hi⟩ := List.getElem?_of_mem hm
  exact ⟨i, by rw [nth_eq]; exact hi⟩
 refine ⟨?_, ?_, ?_⟩
 ·obtain ⟨i, hi⟩ := at' (.row p.2.g 114 (cellsA p.1 p.2)) (by simp [quad])
  refine (hh.cellsRow hi).toE (fun g hg j u a _ ha => ?_) nt mk
  have h1 := hst g hg
  have h2 := hh.newer hi (g := p.2.g) rfl
  injection ha with ha
  subst ha
  show p.2.g ≠ g
  omega
 ·obtain ⟨i, hi⟩ := at' (.own 85 0 2 p.2.lA p.1.loads.length p.2.lc (cellsPr p.1.loads)) (by simp [quad])
  exact ownsB_rowE (hh.owns hi) hst nt mk
 ·obtain ⟨i, hi⟩ := at' (.own 85 0 2 p.2.sA p.1.stores.length p.2.sc (cellsPr p.1.stores)) (by simp [quad])
  exact ownsB_rowE (hh.owns hi) hst nt mk
def ptZ (z : List (At × Hd)) (n : Nat) : Option (At × Hd) := z.reverse.find? fun p => p.1.point == (n : Int)
theorem ptZ_at (z : List (At × Hd)) (n : Nat) : ptAt (z.map (·.1)) n = (ptZ z n).map (·.1) := by
 unfold ptAt ptZ
 rw [← List.map_reverse, List.find?_map]
 rfl
theorem oneMap {E : Env} {H : List SO} {W : World} (h : HeapOk E H W) {i g : Nat} {m : List (Value × Value)} (hi : nth H i = some (.map g m)) (nt : Nat) (mk : List Nat) : HeapOk ⟨W, W.heap.size, [g], nt, mk⟩ [.map g m] W :=
 HeapOk.mk' (Keep.refl _ _) (Nat.le_refl _) (fun e he => by
  simp only [List.mem_singleton] at he
  subst he
  exact h.ents i _ hi) (fun e he g' hg => by
  simp only [List.mem_singleton] at he
  subst he
  simp only [SO.fp, Option.some.injEq] at hg
  subst hg
  exact ⟨(h.fresh i _ _ hi rfl).1, fun ho => ho.2 (by simp)⟩) (by simp)
theorem backMap {E : Env} {H : List SO} {W W' : World} (h : HeapOk E H W) {i g : Nat} {m m' : List (Value × Value)} {nt : Nat} {mk : List Nat} (hi : nth H i = some (.map g m)) (k : HeapOk ⟨W, W.heap.size, [g], nt, mk⟩ [.map g m'] W') : HExt H (setn H i (.map g m')) ∧ HeapOk E (setn H i (.map g m')) W' := by
 have x : HExt H (setn H i (.map g m')) := HExt.setBlk (g := g) hi rfl rfl
 refine ⟨x, h.set hi x (fun _ hg => .inl hg) (fun g' hg' hl => k.keep.block g' ⟨hl, ?_⟩) k.floor k.keep.os k.keep.tape k.keep.output (k.ent (e := .map g m') (by simp))⟩
 simp only [List.mem_singleton]
 intro e
 subst e
 exact hg' rfl
theorem SpE.lent {E : Env} {H : List SO} {W : World} {B : Option Addr} {z : List (At × Hd)} (hs : SpE E B z) (h : HeapOk E H W) {i g : Nat} {m : List (Value × Value)} (hi : nth H i = some (.map g m)) (nt : Nat) (mk : List Nat) : SpE ⟨W, W.heap.size, [g], nt, mk⟩ B z :=
 hs.over ⟨h.keep, fun j hj => ⟨Nat.lt_of_lt_of_le hj.1 h.floor, fun hm => (h.fresh i _ g hi rfl).2 (by simp only [List.mem_singleton] at hm; subst hm; exact hj)⟩, h.floor⟩
def PtOk (z : List (At × Hd)) (xo : Option (At × Hd)) (sx : SV) (xv : Value) : Prop := (xo = none ∧ sx = .val (.pointer none) ∧ xv = .pointer none) ∨ ∃ p, p ∈ z ∧ xo = some p ∧ sx = .adr (some ⟨p.2.g, 0, none⟩) 0 ∧ xv = ptrH p.2
theorem setn_same {α : Type} {l : List α} {i : Nat} {a : α} (h : nth l i = some a) : setn l i a = l := by
 rw [nth_eq] at h
 obtain ⟨h1, rfl⟩ := List.getElem?_eq_some_iff.1 h
 rw [setn_eq]
 exact List.set_getElem_self h1
theorem PtOk.explains {E E0 : Env} {H : List SO} {W : World} {B : Option Addr} {z : List (At × Hd)} {xo : Option (At × Hd)} {sx : SV} {xv : Value} (hp : PtOk z xo sx xv) (hs : SpE E B z) (hl : ∀ p ∈ z, p.1.loads.length ≤ 1000) (h : HeapOk E H W) {i g : Nat} {m : List Pr} (hi : nth H i = some (.map g (memV m))) (e : Ev) :
  CallsV Try.prog 42 [.map (some g), e.val, xv] W fun v W' => v = .bool (explB m e (xo.map (·.1))) ∧ HeapOk E H W' := by
 have back : ∀ {v : Value} {b : Bool} {W' : World}, v = .bool b ∧ HeapOk ⟨W, W.heap.size, [g], 0, []⟩ [.map g (memV m)] W' → v = .bool b ∧ HeapOk E H W' := fun {v} {b} {W'} hv => by
  have := (backMap h hi hv.2).2
  rw [setn_same hi] at this
  exact ⟨hv.1, this⟩
 rcases hp with ⟨rfl, _, rfl⟩ | ⟨p, hm, rfl, _, rfl⟩
 ·exact (explains63_nil g m e (oneMap h hi 0 [])).mono fun v W' hv => back hv
 ·obtain ⟨h1, h2, _⟩ := (hs.lent h hi 0 []).2 p hm
  exact (explains63_some g m e p.1 p.2 (by have := hl p hm; omega) h1 h2 (oneMap h hi 0 [])).mono fun v W' hv => back hv
theorem PtOk.goes {E : Env} {H : List SO} {W : World} {B : Option Addr} {z : List (At × Hd)} {xo : Option (At × Hd)} {sx : SV} {xv : Value} (hp : PtOk z xo sx xv) (hs : SpE E B z) (hl : ∀ p ∈ z, p.1.stores.length ≤ 1000) (h : HeapOk E H W) {i g : Nat} {m : List Pr} (hi : nth H i = some (.map g (memV m))) (e : Ev) :
  CallsV Try.prog 43 [.map (some g), e.val, xv] W fun v W' => v = .tuple #[] ∧ HExt H (setn H i (.map g (memV (goesM m e (xo.map (·.1)))))) ∧ HeapOk E (setn H i (.map g (memV (goesM m e (xo.map (·.1)))))) W' := by
 rcases hp with ⟨rfl, _, rfl⟩ | ⟨p, hm, rfl, _, rfl⟩
 ·exact (goes64_nil g m e (oneMap h hi 0 [])).mono fun v W' hv => ⟨hv.1, backMap h hi hv.2⟩
 ·obtain ⟨h1, _, h2⟩ := (hs.lent h hi 0 []).2 p hm
  exact (goes64_some g m e p.1 p.2 (by have := hl p hm; omega) h1 h2 (oneMap h hi 0 [])).mono fun v W' hv => ⟨hv.1, backMap h hi hv.2⟩
end Go.Proofs.Ytbkpiljencaoeaa
