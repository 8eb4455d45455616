/- 'shuntlaw10.IsaDoes' answers true for every instruction, registers and place: the row, and its tied card. No condition but what the row lists (isa's table of shapes as the program's text lays it). -/
import Derived.Test.YtpoopljpodkdcaaDoorIdDoor
import Derived.Test.YtpoopljpodkdcaaDoorIdLaw8
set_option linter.unusedSimpArgs false
set_option linter.unusedVariables false
set_option linter.unnecessarySimpa false
namespace Go.Proofs.YtpoopljpodkdcaaDoor
open Go Go.ChangeShapes Go.WideShapes Go.ChangeAt Go.RowKit Go.Sx Go.Isa
set_option maxRecDepth 100000

theorem isaDoes_lifted (os : Os) (started : os.Started) (H : Type) (enc : TypeId × Value → H) :
    ReturnsInHanded {} Tryd.checked os 3 .any (fun w args => (Rows.isaDoesSpec.pre enc Tryd.prog Tryd.f3 [] false w args ∧ laidMetH Tryd.prog [("shunt/isa.shapes", Rows.laid_shunt_isa_shapes)] w) ∧ sizedMet enc Tryd.prog Tryd.f3 (OpenSpec.ofChange Rows.isaDoesSpec) false w args)
      (Rows.isaDoesSpec.post enc Tryd.prog Tryd.f3 false true false false) := by
  refine returnsInHanded_of_change_and (C := Tryd.checked) (X := fun w _ => laidMetH Tryd.prog [("shunt/isa.shapes", Rows.laid_shunt_isa_shapes)] w) (fun _ _ _ hh h => h.of_heap hh) Tryd.own started (by kernel_rfl) Tryd.func3
    (ChangeSpec.witness_shaped (enc := enc) (C := Tryd.checked) (os := os) (X := fun w _ => laidMetH Tryd.prog [("shunt/isa.shapes", Rows.laid_shunt_isa_shapes)] w) false (World.laidAll Tryd.prog os [("shunt/isa.shapes", Rows.laid_shunt_isa_shapes)]) #[.agg #[.int .i64 0, .int .i64 0, .int .i64 0, .int .i64 0, .int .i64 0], .agg #[.int .u64 0, .int .u64 0, .int .u64 0, .int .u64 0, .int .u64 0, .int .u64 0, .int .u64 0, .int .u64 0], .int .i64 0] 8 (World.laidAll_os _ _ _)
      (World.shaped_of_ZipB (by kernel_rfl) (by kernel_rfl)) (by kernel_rfl) (by kernel_rfl) (by kernel_rfl)
      (by rw [MakeChecks.laidMetH_plain _ _ _ (by kernel_rfl)]; exact laidMet_laidAll _ (by kernel_rfl) (by kernel_rfl))) ?_
  intro W base args ds gs before hval0 hW hcnd _ hL _
  have hval : ∀ (j : Nat) t v, Tryd.f3.params[j]? = some t → args[j]? = some v → Value.okWide Tryd.prog W .any base t v := hval0
  have hW' := hW
  obtain ⟨p, q, hA0, hV, rfl, hfz, hnd⟩ := hW
  have hA : DataW.TrodAll enc Tryd.prog W 0 (fun _ => true) true Tryd.f3.params.toList args.toList ds p := hA0
  rw [Tryd.params3] at hA hval
  obtain ⟨v1, v2, v3, d1, d2, d3, p1, p2, p3, rfl, rfl, rfl, h1, h2, h3⟩ := trodAll_three hA
  obtain ⟨rfl, rfl⟩ := trodVars_none hV
  obtain ⟨x, rfl, rfl, hx⟩ := open_in Tryd.underlying23 (by kernel_rfl) (hval 0 23 v1 rfl rfl) h1
  obtain ⟨r, rfl, hr, hU, rfl, hrr⟩ := open_regs Tryd.underlying25 (by kernel_rfl) (hval 1 25 v2 rfl rfl) h2
  obtain ⟨pc, rfl, rfl, rfl, hpw⟩ := open_int Tryd.underlying3 (hval 2 3 v3 rfl rfl) h3
  simp only [List.append_nil] at hW'
  refine Calls.mono (law3 x r pc W (sh_of_laid hL (by kernel_rfl)) hr hU) fun e W' he => ?_
  cases e with
  | panicked ch => exact he.elim
  | outgrown => exact he.elim
  | returned v =>
    obtain ⟨rfl, hk⟩ := he
    have hb : Below W.heap.size W W' := ⟨hk.os, hk.tape, hk.output, hk.size, hk.block⟩
    exact ⟨_, rfl, post_of_below (pa := []) (pv := []) hW' (fun _ _ _ => trodAll_mk1 (shut_bool Tryd.underlying4 true))
      (fun sp hsp => trodAll_mk3 (p := []) (p' := []) (p'' := []) (hx W' 0 sp true) (hrr W' 0 sp true) (shut_int Tryd.underlying3 hpw))
      (fun _ _ => rfl) (by simp) hb (ok_one (by kernel_rfl) rfl (okWide_bool_mk Tryd.underlying4 true))⟩

theorem isaDoes_row : Rows.IsaDoesSaid :=
  OpenClaim.holds_of_wide 3 Tryd.f3 rfl rfl rfl rfl rfl rfl rfl ⟨rfl, rfl, rfl, rfl, rfl⟩ rfl rfl rfl rfl rfl (by kernel_rfl) Tryd.func3 (by kernel_rfl)
    (of_decide_eq_true (by kernel_rfl)) (by unfold Func.isWrapper; first | (rw [if_pos (by decide +kernel)]; kernel_rfl) | (rw [if_neg (by decide +kernel)]; exact ⟨rfl, rfl⟩))
    (fun os started H enc _ => isaDoes_lifted os started H enc)

theorem isaDoes_holds : Rows.IsaDoesCardSaid :=
  Claim7.holds_tied_plain_at .later [] [.data] true (true, "d825556907d1fed3ea2b1c0e8e86a5b5550c50a28679975e5909abf0486d2d7c") true
    isaDoes_row (fun _ h => by cases h) (by kernel_rfl) (fun _ h => by cases h) isaDoes_row_tie rfl ⟨rfl, rfl⟩ (by kernel_rfl) rfl
    (fun f fn hf hfn => by
      obtain rfl : f = 3 := Option.some.inj ((show Tryd.prog.funcNamed "shunt/shuntlaw10.IsaDoes" = some 3 by kernel_rfl).symm.trans hf) |>.symm
      obtain rfl : fn = Tryd.f3 := (Option.some.inj (Tryd.func3.symm.trans hfn)).symm
      exact ⟨by kernel_rfl, fun j t ht => by
        rw [Tryd.params3] at ht
        have hm : t ∈ [23, 25, 3] := by simpa using Array.mem_of_getElem? ht
        have hall : ([23, 25, 3].all fun u => !Tryd.prog.wantsStandIn u) = true := by kernel_rfl
        exact (show Tryd.prog.wantsStandIn t = false by simpa using List.all_eq_true.1 hall t hm)⟩)
    (by kernel_rfl)
end Go.Proofs.YtpoopljpodkdcaaDoor
