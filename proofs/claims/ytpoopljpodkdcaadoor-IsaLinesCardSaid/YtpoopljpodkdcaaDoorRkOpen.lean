/- Rows: an argument that is a slice of numbers in structs and arrays; what a row leaves. -/
import Derived.ProofKit
import Derived.Below
import Derived.Carry
import Derived.ChangeSame
import Derived.Deep.Slices
import Derived.Deep.Fields
import Derived.Test.YtpoopljpodkdcaaDoorSxLib
import Derived.Test.YtpoopljpodkdcaaDoorDkFlat
set_option linter.unusedSimpArgs false
set_option linter.unusedVariables false
set_option linter.unnecessarySimpa false
namespace Go.Dk
open Go Go.ChangeShapes Go.WideShapes Go.ChangeAt Go.RowKit Go.Deep Go.Sx

section
variable {H : Type} {enc : TypeId × Value → H} {P : Program}
theorem post_of_below {f : Func} {s : ChangeSpec} {apart fresh handsOn again : Bool} {W W' : World} {args : Array Value} {v : Value} {ds gs : List (DataW H)} {before pa pv : List MemPlace}
    (hW : DataW.Whole enc P f.params.toList s.vars apart W args.toList ds gs before)
    (hres : ∀ (b : Nat) (sp : Nat → Bool) (hd : Bool), DataW.TrodAll enc P W' b sp hd f.resultTypes.toList (v.resultList f.resultTypes.size) (s.fn H (ds ++ gs)).results [])
    (hargs : ∀ sp : Nat → Bool, (∀ p ∈ before, sp p.block = true) → DataW.TrodAll enc P W' 0 sp true f.params.toList args.toList (s.fn H (ds ++ gs)).args pa)
    (hvars : ∀ sp : Nat → Bool, (∀ p ∈ before, sp p.block = true) → DataW.TrodVars enc P W' sp s.vars (s.fn H (ds ++ gs)).vars pv)
    (hps : before = pa ++ pv) (hb : Below W.heap.size W W')
    (hok : ∀ (j : Nat) (t : TypeId) (r : Value), f.resultTypes[j]? = some t → (v.resultList f.resultTypes.size)[j]? = some r → Value.okWide P W' .any 0 t r) :
    s.post enc P f apart fresh handsOn again W args v W' := by
  have hlt : ∀ p ∈ before, p.block < W.heap.size := fun p hp => hW.lt p hp
  have hold : ∀ p ∈ before, (fun b => decide (b < W.heap.size)) p.block = true := fun p hp => by simpa using hlt p hp
  refine ⟨ds, gs, before, [], pa, pv, hW, hres _ _ _, hargs _ hold, hvars _ hold, World.keptBut_mono (fun p hp => ⟨hp, ?_⟩) (hb.frame (· ∈ before)), fun _ => ?_⟩
  · rw [hps, List.mem_append] at hp
    exact Or.inr hp
  · obtain ⟨_, _, _, _, _, hz, hn⟩ := hW
    refine ⟨hok, _, _, ([] ++ pa) ++ pv, ⟨[] ++ pa, pv, trodAll_append (hargs _ (fun _ _ => rfl)) (hres _ _ _), hvars _ (fun _ _ => rfl), rfl, ?_, ?_⟩, ?_⟩
    · intro b off hp
      have hin : MemPlace.cell b off ∈ before := by rw [hps]; simpa using hp
      rw [hb.frozen (hlt _ hin)]
      exact hz b off hin
    · intro ha
      have := hn ha
      rw [hps] at this
      simpa using this
    · intro p hp _
      rw [hps]
      simpa using hp
end

theorem rowAt_list {α : Type} {w : World} {a : Addr} {f : α → List Value} {sz : Nat} (hf : ∀ x, (f x).length = sz) {Q : α → Prop} (n : Nat) (h : ∀ i, i < n → ∃ x : α, Q x ∧ ∀ k v, (f x)[k]? = some v → w.cell? (a.add (i * sz + k)) = some v) :
    ∃ l : List α, l.length = n ∧ RowAt w (some a) (l.flatMap f) ∧ ∀ x ∈ l, Q x := by
  induction n with
  | zero => exact ⟨[], rfl, fun j u hj => by simp at hj, by simp⟩
  | succ n ih =>
    obtain ⟨l, hl, hr, hq⟩ := ih fun i hi => h i (by omega)
    obtain ⟨x, hqx, hx⟩ := h n (by omega)
    refine ⟨l ++ [x], by simp [hl], fun j u hj => ?_, fun y hy => ?_⟩
    · rw [List.flatMap_append] at hj
      have hlen : (l.flatMap f).length = n * sz := by rw [flat_len hf l, hl]
      by_cases hlt : j < (l.flatMap f).length
      · rw [List.getElem?_append_left hlt] at hj; exact hr j u hj
      · rw [List.getElem?_append_right (by omega)] at hj
        have e : [x].flatMap f = f x := by simp
        rw [e] at hj
        have hc := hx _ _ hj
        have ej : n * sz + (j - (l.flatMap f).length) = j := by omega
        rw [ej] at hc
        refine ⟨a, rfl, ?_, hc⟩
        unfold World.cell? at hc
        rw [add_block] at hc
        split at hc
        · rename_i e; exact (Array.getElem?_eq_some_iff.1 e).1
        · cases hc
    · rcases List.mem_append.1 hy with hy | hy
      · exact hq y hy
      · simp at hy; subst hy; exact hqx

section
variable {H : Type} {enc : TypeId × Value → H} {P : Program} {W : World}
theorem open_rows' {α : Type} {f : α → List Value} {Q : α → Prop} {base : Nat} {spare : Nat → Bool} {held : Bool} {t e : TypeId} {L : List IntKind} {fuel : Nat} {cs : List Value} {x : DataW H × List MemPlace} (k : Nat) (ht : P.underlying t = some (.slice e)) (hi : intsT P k e = some L) (hc : P.cellsOf e = L.length)
    (hf : ∀ x, (f x).length = L.length) (hks : ∀ cs, Ks L cs → ∃ x, cs = f x ∧ Q x) (hfu : DataW.trod enc P W base spare held fuel t cs = some x) :
    ∃ (A : Option Addr) (c : Nat) (l : List α), cs = [.slice A l.length c] ∧ l.length ≤ c ∧ RowAt W A (l.flatMap f) ∧ ∀ x ∈ l, Q x := by
  rcases open_slice ht hfu with ⟨e1, _⟩ | ⟨a', len, cap, m, n', D, Pl, e1, _, hl, hm, hmm, _, hel⟩
  · exact ⟨none, 0, [], e1, Nat.le_refl _, fun j u hj => by simp at hj, by simp⟩
  · obtain ⟨l, h1, h2, h3⟩ := rowAt_list (w := W) (a := a') (f := f) (sz := L.length) hf (Q := Q) len (fun i hi' => by
      obtain ⟨cs', hcell, htr⟩ := hel i (by rw [hmm]; split <;> omega)
      obtain ⟨hk, _⟩ := trod_ints k e n' cs' L _ hi htr
      obtain ⟨x, rfl, hq⟩ := hks cs' hk
      refine ⟨x, hq, fun j u hj => ?_⟩
      obtain ⟨_, hlen, hat⟩ := World.cells?_some hcell
      have hjl := (List.getElem?_eq_some_iff.1 hj).1
      have := hat j (by rw [hf] at hjl; omega)
      rw [hc] at this
      rw [← Go.Deep.add_add, this]; exact hj)
    exact ⟨some a', cap, l, by rw [h1]; exact e1, by omega, h2, h3⟩
theorem open_rows {α : Type} {f : α → List Value} {Q : α → Prop} {base b0 : Nat} {r : Reach} {spare : Nat → Bool} {held : Bool} {t e : TypeId} {L : List IntKind} {v : Value} {d : DataW H} {p : List MemPlace} (k : Nat) (ht : P.underlying t = some (.slice e)) (hi : intsT P k e = some L) (hc : P.cellsOf e = L.length)
    (hf : ∀ x, (f x).length = L.length) (hks : ∀ cs, Ks L cs → ∃ x, cs = f x ∧ Q x) (hv : Value.okWide P W r b0 t v) (h : DataW.Trod enc P W base spare held t v d p) :
    ∃ (A : Option Addr) (c : Nat) (l : List α), v = .slice A l.length c ∧ l.length ≤ c ∧ RowAt W A (l.flatMap f) ∧ ∀ x ∈ l, Q x := by
  obtain ⟨a, n, c, rfl⟩ := okWide_slice ht hv
  obtain ⟨fuel, hfu⟩ := h
  obtain ⟨A, c', l, e, h⟩ := open_rows' (f := f) (Q := Q) k ht hi hc hf hks hfu
  refine ⟨A, c', l, ?_, h⟩
  simpa [Value.cells] using e
theorem open_slice_fields {base : Nat} {spare : Nat → Bool} {held : Bool} {t e : TypeId} {fs : Array Field} {fuel : Nat} {cs : List Value} {x : DataW H × List MemPlace} (ht : P.underlying t = some (.slice e)) (he : P.underlying e = some (.struct fs))
    (hone : oneCellFields P fs = true) (hC : P.cellsOf e = fs.size) (h : DataW.trod enc P W base spare held fuel t cs = some x) :
    cs = [.slice none 0 0] ∨
    ∃ (a : Addr) (len cap : Nat), cs = [.slice (some a) len cap] ∧ len ≤ cap ∧
      ∀ i, i < len → ∃ n : Nat, ∀ (j : Nat) (f : Field), fs[j]? = some f → ∃ (v : Value) (y : DataW H × List MemPlace), W.cell? (a.add (i * fs.size + j)) = some v ∧ DataW.trod enc P W base spare held n f.type [v] = some y := by
  rcases open_slice ht h with ⟨h0, _⟩ | ⟨a, len, cap, m, n, D, Pl, hcs, hb, hl, hm, hmm, hx, hi⟩
  · exact .inl h0
  · refine .inr ⟨a, len, cap, hcs, hl, fun i him => ?_⟩
    obtain ⟨cs', hc, ht'⟩ := hi i (by rw [hmm]; split <;> omega)
    rw [hC] at hc
    obtain ⟨ys, n', hn', hy, hlen, hyl, hf⟩ := DataW.trod_struct he ht'
    obtain ⟨_, hcl, hat⟩ := World.cells?_some hc
    refine ⟨n', fun j f hj => ?_⟩
    obtain ⟨ho, hk⟩ := hone_of hone j f hj
    have hjl : j < fs.size := (Array.getElem?_eq_some_iff.1 hj).1
    have hcell := hat j hjl
    have hv : cs'[j]? = some (cs'[j]'(by omega)) := List.getElem?_eq_getElem (by omega)
    have h1 := hf j f hj
    rw [ho, hk] at h1
    have hone' : (cs'.drop j).take 1 = [cs'[j]'(by omega)] := by
      rw [List.drop_eq_getElem_cons (by omega)]
      rfl
    rw [hone'] at h1
    have hys : ys[j]? = some (ys[j]'(by omega)) := List.getElem?_eq_getElem (by omega)
    refine ⟨_, _, ?_, h1.trans hys⟩
    rw [← Go.Deep.add_add, hcell, hv]
theorem open_agg {base : Nat} {spare : Nat → Bool} {held : Bool} {t : TypeId} {L : List IntKind} {cs : Array Value} {d : DataW H} {p : List MemPlace} (k : Nat) (hi : intsT P k t = some L) (h : DataW.Trod enc P W base spare held t (.agg cs) d p) :
    Ks L cs.toList ∧ p = [] ∧ ∀ (w' : World) (b' : Nat) (s' : Nat → Bool) (h' : Bool), DataW.Trod enc P w' b' s' h' t (.agg cs) d [] := by
  obtain ⟨fuel, hf⟩ := h
  obtain ⟨hk, hp, hal⟩ := trod_ints k t fuel _ _ (d, p) hi hf
  have hp : p = [] := hp
  subst hp
  exact ⟨hk, rfl, fun w' b' s' h' => ⟨fuel, hal w' b' s' h'⟩⟩
theorem open_int {base b0 : Nat} {r : Reach} {spare : Nat → Bool} {held : Bool} {t : TypeId} {q : IntKind} {v : Value} {d : DataW H} {p : List MemPlace} (hu : P.underlying t = some (.int q)) (hv : Value.okWide P W r b0 t v) (h : DataW.Trod enc P W base spare held t v d p) :
    ∃ n, v = .int q n ∧ (Lit.int q n).wf = true ∧ p = [] ∧ ∀ (w' : World) (b' : Nat) (s' : Nat → Bool) (h' : Bool), DataW.Trod enc P w' b' s' h' t v d [] := by
  obtain ⟨fuel, hf⟩ := h
  obtain ⟨hk, hp, hal⟩ := trod_ints 1 t fuel _ [q] (d, p) (by simp [intsT, hu]) hf
  simp only [Ks] at hk
  obtain ⟨n, r, e, hw, rfl⟩ := hk
  have hp : p = [] := hp
  subst hp
  have hvv : v = .int q n := by
    obtain ⟨m, rfl⟩ := okWide_int hu hv
    simpa [Value.cells] using e
  exact ⟨n, hvv, hw, rfl, fun w' b' s' h' => ⟨fuel, hal w' b' s' h'⟩⟩
end
end Go.Dk
