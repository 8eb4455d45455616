/- What the rows over isa share: what is listed, and what arguments are. -/
import Derived.Test.YtpoopljpodkdcaaDoorRows
import Derived.Test.YtpoopljpodkdcaaDoorTie
import Derived.Test.YtpoopljpodkdcaaDoorCards
import Derived.ProofKit
import Derived.Below
import Derived.Carry
import Derived.ChangeSame
import Derived.Lay
import Derived.MakeChecks
import Derived.SevenTiedAt
import Derived.Test.YtpoopljpodkdcaaDoorDkFlat
import Derived.Test.YtpoopljpodkdcaaDoorIdLaw3
set_option linter.unusedSimpArgs false
set_option linter.unusedVariables false
set_option linter.unnecessarySimpa false
namespace Go.Proofs.YtpoopljpodkdcaaDoor
open Go Go.ChangeShapes Go.WideShapes Go.ChangeAt Go.RowKit Go.Sx Go.Isa
set_option maxRecDepth 100000

theorem Tryd.own : ownKnob Tryd.prog.godebug = none := by kernel_rfl

section
variable {H : Type} {enc : TypeId × Value → H} {P : Program}
theorem post_of_below {f : Func} {s : ChangeSpec} {apart fresh handsOn again : Bool} {W W' : World} {args : Array Value} {v : Value} {ds gs : List (DataW H)} {before pa pv : List MemPlace}
    (hW : DataW.Whole enc P f.params.toList s.vars apart W args.toList ds gs before)
    (hres : ∀ (b : Nat) (sp : Nat → Bool) (hd : Bool), DataW.TrodAll enc P W' b sp hd f.resultTypes.toList (v.resultList f.resultTypes.size) (s.fn H (ds ++ gs)).results [])
    (hargs : ∀ sp : Nat → Bool, (∀ p ∈ before, sp p.block = true) → DataW.TrodAll enc P W' 0 sp true f.params.toList args.toList (s.fn H (ds ++ gs)).args pa)
    (hvars : ∀ sp : Nat → Bool, (∀ p ∈ before, sp p.block = true) → DataW.TrodVars enc P W' sp s.vars (s.fn H (ds ++ gs)).vars pv)
    (hps : before = pa ++ pv) (hb : Below W.heap.size W W')
    (hok : ∀ (j : Nat) (t : TypeId) (r : Value), f.resultTypes[j]? = some t → (v.resultList f.resultTypes.size)[j]? = some r → Value.okWide P W' .any 0 t r) :
    s.post enc P f apart fresh handsOn again W args v W' := by
  have hlt : ∀ p ∈ before, p.block < W.heap.size := fun p hp => hW.lt p hp
  have hold : ∀ p ∈ before, (fun b => decide (b < W.heap.size)) p.block = true := fun p hp => by simpa using hlt p hp
  refine ⟨ds, gs, before, [], pa, pv, hW, hres _ _ _, hargs _ hold, hvars _ hold, World.keptBut_mono (fun p hp => ⟨hp, ?_⟩) (hb.frame (· ∈ before)), fun _ => ?_⟩
  · rw [hps, List.mem_append] at hp
    exact Or.inr hp
  · obtain ⟨_, _, _, _, _, hz, hn⟩ := hW
    refine ⟨hok, _, _, ([] ++ pa) ++ pv, ⟨[] ++ pa, pv, trodAll_append (hargs _ (fun _ _ => rfl)) (hres _ _ _), hvars _ (fun _ _ => rfl), rfl, ?_, ?_⟩, ?_⟩
    · intro b off hp
      have hin : MemPlace.cell b off ∈ before := by rw [hps]; simpa using hp
      rw [hb.frozen (hlt _ hin)]
      exact hz b off hin
    · intro ha
      have := hn ha
      rw [hps] at this
      simpa using this
    · intro p hp _
      rw [hps]
      simpa using hp
end

theorem sh_of_laid {w : World} {l : List (String × DataW Unit)} (h : laidMetH Tryd.prog l w) (hf : (l.filter fun x => x.1 == "shunt/isa.shapes") = [("shunt/isa.shapes", Rows.laid_shunt_isa_shapes)]) : ShAt w := by
  obtain ⟨h1, h2⟩ := Dk.laid_cells (k := 5) (g := 0) (t := (Tryd.prog.globals[0]?.map (·.type)).getD 0) (cs := shL) h (n := "shunt/isa.shapes") (d := Rows.laid_shunt_isa_shapes) hf (by kernel_rfl) (by kernel_rfl) (by kernel_rfl) (by kernel_rfl) (by kernel_rfl) (by decide)
  intro j u hj
  refine ⟨_, rfl, h1, ?_⟩
  have := h2 j u hj
  have e : (⟨0, 0, none⟩ : Addr).add j = ⟨0, j, none⟩ := by unfold Addr.add; split <;> simp_all
  rw [e]; exact this

theorem open_in {H : Type} {enc : TypeId × Value → H} {W : World} {r : Reach} {b0 : Nat} {base : Nat} {spare : Nat → Bool} {held : Bool} {t : TypeId} {fs : Array Field} {v : Value} {d : DataW H} {p : List MemPlace} (hu : Tryd.prog.underlying t = some (.struct fs)) (hi : Dk.intsT Tryd.prog 3 t = some [.i64, .i64, .i64, .i64, .i64])
    (hv : Value.okWide Tryd.prog W r b0 t v) (h : DataW.Trod enc Tryd.prog W base spare held t v d p) : ∃ x : In, v = In.val x ∧ p = [] ∧ ∀ (w' : World) (b' : Nat) (s' : Nat → Bool) (h' : Bool), DataW.Trod enc Tryd.prog w' b' s' h' t v d [] := by
  obtain ⟨cs, rfl, _⟩ := okWide_struct hu hv
  obtain ⟨fuel, hf⟩ := h
  obtain ⟨hk, hp, hal⟩ := Dk.trod_ints 3 t fuel _ _ (d, p) hi hf
  simp only [Dk.Ks] at hk
  obtain ⟨a, _, e1, _, b, _, rfl, _, c, _, rfl, _, dd, _, rfl, _, e, _, rfl, _, rfl⟩ := hk
  have hp : p = [] := hp
  subst hp
  refine ⟨⟨a, b, c, dd, e⟩, ?_, rfl, fun w' b' s' h' => ⟨fuel, hal w' b' s' h'⟩⟩
  show Value.agg cs = Value.agg _
  congr 1
  rw [← Array.toList_inj]
  exact e1
theorem wfU {n : Int} (h : (Lit.int .u64 n).wf = true) : isU n := by
  simp [Lit.wf, IntKind.min, IntKind.max, IntKind.signed, IntKind.bits] at h
  unfold isU; omega
theorem okWide_array {P : Program} {w : World} {r : Reach} {base : Nat} {t e : TypeId} {n : Nat} {v : Value} (ht : P.underlying t = some (.array n e)) (h : Value.okWide P w r base t v) : ∃ cs, v = .agg cs ∧ cs.size = P.cellsOf t := by
  simp only [Value.okWide, ht] at h
  obtain ⟨cs, h1, h2, _⟩ := h
  exact ⟨cs, h1, h2⟩
theorem open_regs {H : Type} {enc : TypeId × Value → H} {W : World} {r : Reach} {b0 : Nat} {base : Nat} {spare : Nat → Bool} {held : Bool} {t e : TypeId} {n : Nat} {v : Value} {d : DataW H} {p : List MemPlace} (hu : Tryd.prog.underlying t = some (.array n e)) (hi : Dk.intsT Tryd.prog 3 t = some [.u64, .u64, .u64, .u64, .u64, .u64, .u64, .u64])
    (hv : Value.okWide Tryd.prog W r b0 t v) (h : DataW.Trod enc Tryd.prog W base spare held t v d p) : ∃ x : List Int, v = .agg (x.map uV).toArray ∧ x.length = 8 ∧ (∀ n ∈ x, isU n) ∧ p = [] ∧ ∀ (w' : World) (b' : Nat) (s' : Nat → Bool) (h' : Bool), DataW.Trod enc Tryd.prog w' b' s' h' t v d [] := by
  obtain ⟨cs, rfl, _⟩ := okWide_array hu hv
  obtain ⟨fuel, hf⟩ := h
  obtain ⟨hk, hp, hal⟩ := Dk.trod_ints 3 t fuel _ _ (d, p) hi hf
  simp only [Dk.Ks] at hk
  obtain ⟨a0, _, e1, h0, a1, _, rfl, h1, a2, _, rfl, h2, a3, _, rfl, h3, a4, _, rfl, h4, a5, _, rfl, h5, a6, _, rfl, h6, a7, _, rfl, h7, rfl⟩ := hk
  have hp : p = [] := hp
  subst hp
  refine ⟨[a0, a1, a2, a3, a4, a5, a6, a7], ?_, rfl, ?_, rfl, fun w' b' s' h' => ⟨fuel, hal w' b' s' h'⟩⟩
  · show Value.agg cs = Value.agg _
    congr 1
    rw [← Array.toList_inj]
    exact e1
  · simp only [List.forall_mem_cons, List.not_mem_nil, false_implies, implies_true, and_true]
    exact ⟨wfU h0, wfU h1, wfU h2, wfU h3, wfU h4, wfU h5, wfU h6, wfU h7⟩
end Go.Proofs.YtpoopljpodkdcaaDoor
