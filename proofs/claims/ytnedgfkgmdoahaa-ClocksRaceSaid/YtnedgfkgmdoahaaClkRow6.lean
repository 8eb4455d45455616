/- 'shuntlaw26.ClocksRace' answers true for any operations, one more, and any place, and leaves its arguments as they were. No condition. -/
import Derived.Test.YtnedgfkgmdoahaaClkRowK
import Derived.Test.YtnedgfkgmdoahaaClkLaw6
set_option linter.unusedSimpArgs false
set_option linter.unusedVariables false
set_option linter.unnecessarySimpa false
namespace Go.Proofs.Ytnedgfkgmdoahaa
open Go Go.ChangeShapes Go.WideShapes Go.ChangeAt Go.RowKit Go.Sx Go.Clk Go.Dk
set_option maxRecDepth 100000

theorem clocksRace_lifted (os : Os) (started : os.Started) (H : Type) (enc : TypeId × Value → H) :
    ReturnsInHanded {} Try.checked os 6 .any (Rows.clocksRaceSpec.pre6 enc Try.prog Try.f6 Rows.clocksRaceRow.domain false) (Rows.clocksRaceSpec.post enc Try.prog Try.f6 false true false false) := by
  refine returnsInHanded_of_change (C := Try.checked) Try.own started (by kernel_rfl) Try.func6
    (ChangeSpec.witness6 (enc := enc) (C := Try.checked) false ⟨#[], #[.slice none 0 0, .agg #[.int .i64 0, .int .i64 0, .int .i64 0], .int .u8 0], []⟩ 8 (by kernel_rfl) (by kernel_rfl) (by kernel_rfl) (by kernel_rfl)) ?_
  intro W base args ds gs before hval0 hW hcnd _
  have hval : ∀ (j : Nat) t v, Try.f6.params[j]? = some t → args[j]? = some v → Value.okWide Try.prog W .any base t v := hval0
  have hW' := hW
  obtain ⟨p, q, hA0, hV, rfl, hfz, hnd⟩ := hW
  have hA : DataW.TrodAll enc Try.prog W 0 (fun _ => true) true Try.f6.params.toList args.toList ds p := hA0
  rw [Try.params6] at hA hval
  obtain ⟨v1, v2, v3, d1, d2, d3, p1, p2, p3, rfl, rfl, rfl, h1, h2, h3⟩ := trodAll_three hA
  obtain ⟨rfl, rfl⟩ := trodVars_none hV
  clear hA0 hval0
  simp only [List.append_nil] at hW'
  obtain ⟨A, c, l, rfl, hlc, hr⟩ := open_syncs (hval 0 25 v1 rfl rfl) h1
  obtain ⟨cs, rfl, _⟩ := okWide_struct Try.underlying29 (hval 1 29 v2 rfl rfl)
  obtain ⟨hk, rfl, h2'⟩ := open_agg 3 (L := [.i64, .i64, .i64]) (by kernel_rfl) h2
  obtain ⟨x, hx, _⟩ := sync_ks _ hk
  have ecs : cs = x.cells.toArray := by rw [← Array.toList_inj]; exact hx
  subst ecs
  obtain ⟨a0, rfl, wa, rfl, h3'⟩ := Dk.open_int Try.underlying5 (hval 2 5 v3 rfl rfl) h3
  have hab : 0 ≤ a0 ∧ a0 ≤ 255 := by
    simp [Lit.wf, IntKind.min, IntKind.max, IntKind.signed, IntKind.bits] at wa
    omega
  have hlt : ∀ y ∈ p1, y.block < W.heap.size := fun y hy => hW'.lt y (by simp [hy])
  refine Calls.mono (law6 A c l x a0 W hr hlc hab) fun e W' he => ?_
  cases e with
  | panicked ch => exact he.elim
  | outgrown => exact he.elim
  | returned v =>
    obtain ⟨rfl, hk⟩ := he
    have hb : Below W.heap.size W W' := ⟨hk.os, hk.tape, hk.output, hk.size, hk.block⟩
    exact ⟨_, rfl, Dk.post_of_below (pa := p1 ++ ([] ++ [])) (pv := []) hW' (fun _ _ _ => trodAll_mk1 (shut_bool Try.underlying4 true))
      (fun sp hsp => trodAll_mk3 (WideElems.Trod_stays Try.laidOut (by kernel_rfl) (of_decide_eq_true (by kernel_rfl)) h1 (fun y hy => hb.same (hlt y hy)) (fun y hy => hsp y (by simp [hy])))
        (h2' _ _ _ _) (h3' _ _ _ _))
      (fun _ _ => rfl) (by simp) hb (ok_one (by kernel_rfl) rfl (okWide_bool_mk Try.underlying4 true))⟩

theorem clocksRace_holds : Rows.ClocksRaceSaid :=
  OpenClaim.holds_of_wide 6 Try.f6 rfl rfl rfl rfl rfl rfl rfl ⟨rfl, rfl, rfl, rfl, rfl⟩ rfl rfl rfl rfl rfl (by kernel_rfl) Try.func6 (by kernel_rfl)
    (of_decide_eq_true (by kernel_rfl)) (by unfold Func.isWrapper; first | (rw [if_pos (by decide +kernel)]; kernel_rfl) | (rw [if_neg (by decide +kernel)]; exact ⟨rfl, rfl⟩))
    (fun os started H enc _ => clocksRace_lifted os started H enc)
end Go.Proofs.Ytnedgfkgmdoahaa
