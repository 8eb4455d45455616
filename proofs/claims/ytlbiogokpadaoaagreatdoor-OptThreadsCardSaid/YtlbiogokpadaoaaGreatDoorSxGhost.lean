/- The engine: other words for the same memory. -/
import Derived.Test.YtlbiogokpadaoaaGreatDoorSxTree
set_option linter.unusedSimpArgs false
set_option linter.unusedVariables false
set_option linter.unnecessarySimpa false
namespace Go.Sx

theorem Rep.ownC {E : Env} {s : SS} {a : Act} {W : World} (rep : Rep E s a W) (d : Nat) {i n g sz : Nat} {t : TypeId} {l : List SV} {xs : List Value} (hF : lk s.F d = .slc i 0 n n) (hi : nth s.H i = some (.cells g t l)) (hx : denL s.H l = some xs) (hl : xs.length = n * sz) (hn : n ≤ maxLen) :
    Rep E { F := (d, .own s.H.length 0) :: s.F, H := setn s.H i (.gone g) ++ [.own t 0 sz (some ⟨g, 0, none⟩) n n xs] } a W := by
  obtain ⟨cur, hc, hL⟩ := rep.heap.ents i _ hi
  have ecur := denL_is l hx hL
  have hc : W.heap[g]? = some (.cells cur t (0, 0)) := hc
  have hg1 := HExt.goneAt hi
  have hheap1 : HeapOk E (setn s.H i (.gone g)) W := rep.heap.set hi hg1 (fun g hg => by simp [SO.fp] at hg) (fun _ _ _ => rfl) (Nat.le_refl _) rfl rfl rfl trivial
  have hx2 := HExt.push (setn s.H i (.gone g)) (.own t 0 sz (some ⟨g, 0, none⟩) n n xs)
  have hlen2 : (setn s.H i (.gone g)).length = s.H.length := by rw [setn_eq, List.length_set]
  have hh : HeapOk E (setn s.H i (.gone g) ++ [.own t 0 sz (some ⟨g, 0, none⟩) n n xs]) W := by
    refine hheap1.pushG (row := some g) (Nat.le_refl _) rfl rfl rfl (fun _ _ _ => rfl) (fun g' e => ?_) (fun g' hg => ?_) ⟨hl, .inr ⟨g, cur, rfl, hc, Nat.le_refl _, hn, by rw [← hl, ← ecur]; simp, by rw [← hl, ecur, List.take_length]⟩⟩
    · injection e with e; subst e
      refine ⟨(rep.heap.fresh i _ g hi rfl).2, fun j e' hj hfp => ?_⟩
      by_cases hij : i = j
      · subst hij; rw [nth_setn_eq _ (nth_lt hi)] at hj; injection hj with hj; subst hj; cases hfp
      · rw [nth_setn_ne _ hij] at hj
        exact rep.heap.dist i j _ e' g hij hi hj rfl hfp
    · simp only [SO.fp, Option.map_some, Option.some.injEq] at hg; subst hg
      exact ⟨.inl rfl, (Array.getElem?_eq_some_iff.1 hc).1⟩
  refine Rep.tell (rep.ext (hg1.trans' hx2) hh) ?_
  have hf := rep.frame d
  rw [hF] at hf
  simp only [Is] at hf ⊢
  obtain ⟨g', hb, hv⟩ := hf
  rw [blk_eq, hi] at hb
  simp only [Option.bind_some, SO.blk, Option.some.injEq] at hb; subst hb
  exact ⟨t, 0, sz, some ⟨g, 0, none⟩, n, n, xs, by rw [nth_eq, ← hlen2]; simp, Nat.le_refl _, ⟨_, _, _, hv⟩, fun _ => hv⟩

theorem rep_swap {E : Env} {F : List (Nat × SV)} {H : List SO} {a : Act} {W : World} (d : Nat) {x y : SV} (rep : Rep E { F := F, H := H } a W) (hl : lk F d = x) (h : ∀ v, Is H x v → Is H y v) : Rep E { F := (d, y) :: F, H := H } a W := by
  refine ⟨rep.size, fun d' => ?_, rep.defers, rep.heap⟩
  have h1 := rep.frame d'
  cases e : d == d' with
  | true =>
    have := eq_of_beq e
    subst this
    simp only [lk, e]
    simp only [hl] at h1
    exact h _ h1
  | false =>
    simp only [lk, e]
    exact h1
theorem bsv_is {H : List SO} {b : Bool} : ∀ v, Is H (.val (.bool b)) v → Is H (bsv b) v := by
  intro v h
  simp only [Is] at h
  subst h
  cases b <;> simp [bsv, Is]
theorem rep_bool {E : Env} {F : List (Nat × SV)} {H : List SO} {a : Act} {W : World} (d : Nat) {b : Bool} (rep : Rep E { F := F, H := H } a W) (hl : lk F d = .val (.bool b)) : Rep E { F := (d, bsv b) :: F, H := H } a W := rep_swap d rep hl bsv_is
end Go.Sx
