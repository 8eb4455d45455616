/- 'shuntlaw10.IsaReads' answers true for every list of bytes, and leaves its argument as it was. No condition. -/
import Derived.Test.YtpoopljpodkdcaaRows
import Derived.ProofKit
import Derived.Below
import Derived.Carry
import Derived.ChangeSame
import Derived.Deep.Slices
import Derived.Deep.Fields
import Derived.Test.YtpoopljpodkdcaaIsaLaw3
set_option linter.unusedSimpArgs false
set_option linter.unusedVariables false
namespace Go.Proofs.Ytpoopljpodkdcaa
open Go Go.ChangeShapes Go.WideShapes Go.ChangeAt Go.RowKit Go.Deep Go.Sx Go.Isa

theorem Try.own : ownKnob Try.prog.godebug = none := by kernel_rfl
theorem Try.laidOut : laidOutB Try.prog = true := by kernel_rfl

section
variable {H : Type} {enc : TypeId × Value → H} {P : Program}
theorem post_of_below {f : Func} {s : ChangeSpec} {apart fresh handsOn again : Bool} {W W' : World} {args : Array Value} {v : Value} {ds gs : List (DataW H)} {before pa pv : List MemPlace}
    (hW : DataW.Whole enc P f.params.toList s.vars apart W args.toList ds gs before)
    (hres : ∀ (b : Nat) (sp : Nat → Bool) (hd : Bool), DataW.TrodAll enc P W' b sp hd f.resultTypes.toList (v.resultList f.resultTypes.size) (s.fn H (ds ++ gs)).results [])
    (hargs : ∀ sp : Nat → Bool, (∀ p ∈ before, sp p.block = true) → DataW.TrodAll enc P W' 0 sp true f.params.toList args.toList (s.fn H (ds ++ gs)).args pa)
    (hvars : ∀ sp : Nat → Bool, (∀ p ∈ before, sp p.block = true) → DataW.TrodVars enc P W' sp s.vars (s.fn H (ds ++ gs)).vars pv)
    (hps : before = pa ++ pv) (hb : Below W.heap.size W W')
    (hok : ∀ (j : Nat) (t : TypeId) (r : Value), f.resultTypes[j]? = some t → (v.resultList f.resultTypes.size)[j]? = some r → Value.okWide P W' .any 0 t r) :
    s.post enc P f apart fresh handsOn again W args v W' := by
  have hlt : ∀ p ∈ before, p.block < W.heap.size := fun p hp => hW.lt p hp
  have hold : ∀ p ∈ before, (fun b => decide (b < W.heap.size)) p.block = true := fun p hp => by simpa using hlt p hp
  refine ⟨ds, gs, before, [], pa, pv, hW, hres _ _ _, hargs _ hold, hvars _ hold, World.keptBut_mono (fun p hp => ⟨hp, ?_⟩) (hb.frame (· ∈ before)), fun _ => ?_⟩
  · rw [hps, List.mem_append] at hp
    exact Or.inr hp
  · obtain ⟨_, _, _, _, _, hz, hn⟩ := hW
    refine ⟨hok, _, _, ([] ++ pa) ++ pv, ⟨[] ++ pa, pv, trodAll_append (hargs _ (fun _ _ => rfl)) (hres _ _ _), hvars _ (fun _ _ => rfl), rfl, ?_, ?_⟩, ?_⟩
    · intro b off hp
      have hin : MemPlace.cell b off ∈ before := by rw [hps]; simpa using hp
      rw [hb.frozen (hlt _ hin)]
      exact hz b off hin
    · intro ha
      have := hn ha
      rw [hps] at this
      simpa using this
    · intro p hp _
      rw [hps]
      simpa using hp
end

/-- Cells at each place of a row, from lists of them. -/
theorem rowAt_of {w : World} {a : Addr} (n : Nat) (h : ∀ i, i < n → ∃ x : Int, isB x ∧ w.cell? (a.add i) = some (vb x)) : ∃ l : List Int, l.length = n ∧ RowAt w (some a) (l.map vb) ∧ ∀ x ∈ l, isB x := by
  induction n with
  | zero => exact ⟨[], rfl, fun j u hj => by simp at hj, by simp⟩
  | succ n ih =>
    obtain ⟨l, hl, hr, hb⟩ := ih fun i hi => h i (by omega)
    obtain ⟨x, hx, hc⟩ := h n (by omega)
    refine ⟨l ++ [x], by simp [hl], fun j u hj => ?_, fun y hy => ?_⟩
    · rw [List.map_append] at hj
      by_cases hlt : j < (l.map vb).length
      · rw [List.getElem?_append_left hlt] at hj; exact hr j u hj
      · rw [List.getElem?_append_right (by omega)] at hj
        have hj0 := (List.getElem?_eq_some_iff.1 hj).1
        simp at hj0 hlt
        have ej : j = n := by omega
        subst ej
        have : u = vb x := by simp [hl] at hj; exact hj.symm
        subst this
        refine ⟨a, rfl, ?_, hc⟩
        unfold World.cell? at hc
        rw [add_block] at hc
        split at hc
        · rename_i e; exact (Array.getElem?_eq_some_iff.1 e).1
        · cases hc
    · rcases List.mem_append.1 hy with hy | hy
      · exact hb y hy
      · simp at hy; subst hy; exact hx

theorem one_cell {W : World} {base : Nat} {v : Value} {A : Option Addr} {n c : Nat} (h : Value.okWide Try.prog W .any base 22 v) (e : v.cells.toList = [.slice A n c]) : v = .slice A n c := by
  obtain ⟨a, l, d, rfl⟩ := okWide_slice Try.underlying22 h
  simpa [Value.cells] using e

set_option maxRecDepth 100000 in
theorem isaReads_lifted (os : Os) (started : os.Started) (H : Type) (enc : TypeId × Value → H) :
    ReturnsInHanded {} Try.checked os 3 .any (Rows.isaReadsSpec.pre6 enc Try.prog Try.f3 Rows.isaReadsRow.domain false) (Rows.isaReadsSpec.post enc Try.prog Try.f3 false true false false) := by
  refine returnsInHanded_of_change (C := Try.checked) Try.own started (by kernel_rfl) Try.func3
    (ChangeSpec.witness6 (enc := enc) (C := Try.checked) false ⟨#[], #[.slice none 0 0], []⟩ 8 (by kernel_rfl) (by kernel_rfl) (by kernel_rfl) (by kernel_rfl)) ?_
  intro W base args ds gs before hval0 hW hcnd _
  have hval : ∀ (j : Nat) t v, Try.f3.params[j]? = some t → args[j]? = some v → Value.okWide Try.prog W .any base t v := hval0
  have hW' := hW
  obtain ⟨p, q, hA0, hV, rfl, hfz, hnd⟩ := hW
  have hA : DataW.TrodAll enc Try.prog W 0 (fun _ => true) true Try.f3.params.toList args.toList ds p := hA0
  rw [Try.params3] at hA hval
  obtain ⟨v0, d0, rfl, rfl, h0⟩ := trodAll_one hA
  obtain ⟨rfl, rfl⟩ := trodVars_none hV
  clear hA0 hval0
  simp only [List.append_nil] at hW'
  have hlt : ∀ x ∈ p, x.block < W.heap.size := fun x hx => hW'.lt x hx
  have arg : ∃ (A : Option Addr) (c : Nat) (l : List Int), v0 = .slice A l.length c ∧ RowAt W A (l.map vb) ∧ (∀ x ∈ l, isB x) ∧ l.length ≤ c := by
    obtain ⟨n0, h0'⟩ := h0
    rcases open_slice1 Try.underlying22 (by kernel_rfl) h0' with ⟨e1, _⟩ | ⟨a, len, cap, m, n, V, D, Pl, e1, _, hl, hc, hm, _, hf⟩
    · refine ⟨none, 0, [], ?_, fun j u hj => by simp at hj, by simp, Nat.le_refl _⟩
      exact one_cell (hval 0 22 v0 rfl rfl) e1
    · have hm : m = cap := by simpa using hm
      obtain ⟨l, hl2, hr, hb⟩ := rowAt_of (w := W) (a := a) len (fun i hi => by
        obtain ⟨hc, ht⟩ := hf i (by omega)
        obtain ⟨z, hz, _, hw⟩ := DataW.trod_int Try.underlying5 ht
        simp only [List.cons.injEq, and_true] at hz
        rw [hz] at hc
        refine ⟨z, ?_, hc⟩
        simp [Lit.wf, IntKind.min, IntKind.max, IntKind.bits, IntKind.signed] at hw
        simp only [isB]; omega)
      refine ⟨some a, cap, l, ?_, hr, hb, by omega⟩
      rw [hl2]
      exact one_cell (hval 0 22 v0 rfl rfl) e1
  obtain ⟨A, c, l, rfl, hr, hb0, hlc⟩ := arg
  refine Calls.mono (law3 A c l W hr hb0 hlc) fun e W' he => ?_
  cases e with
  | panicked ch => exact he.elim
  | outgrown => exact he.elim
  | returned v =>
    obtain ⟨hk, rfl⟩ := he
    have hb : Below W.heap.size W W' := ⟨hk.os, hk.tape, hk.output, hk.size, hk.block⟩
    exact ⟨_, rfl, post_of_below (pa := p) (pv := []) hW' (fun _ _ _ => trodAll_mk1 (shut_bool Try.underlying4 true))
      (fun sp hsp => trodAll_mk1 (WideElems.Trod_stays Try.laidOut (by kernel_rfl) (of_decide_eq_true (by kernel_rfl)) h0 (fun x hx => hb.same (hlt x hx)) (fun x hx => hsp x hx)))
      (fun _ _ => rfl) (by simp) hb (ok_one (by kernel_rfl) rfl (okWide_bool_mk Try.underlying4 true))⟩

theorem isaReads_holds : Rows.IsaReadsSaid :=
  OpenClaim.holds_of_wide 3 Try.f3 rfl rfl rfl rfl rfl rfl rfl ⟨rfl, rfl, rfl, rfl, rfl⟩ rfl rfl rfl rfl rfl (by kernel_rfl) Try.func3 (by kernel_rfl)
    (of_decide_eq_true (by kernel_rfl)) (by unfold Func.isWrapper; first | (rw [if_pos (by decide +kernel)]; kernel_rfl) | (rw [if_neg (by decide +kernel)]; exact ⟨rfl, rfl⟩))
    (fun os started H enc _ => isaReads_lifted os started H enc)
end Go.Proofs.Ytpoopljpodkdcaa
