/- 'shuntlaw25.GraphEither' answers true for any nodes and edges, and leaves the edges as they were. No condition. -/
import Derived.Test.YtbkpiljencaoeaaGrRowK
import Derived.Test.YtbkpiljencaoeaaGrW3
set_option linter.unusedSimpArgs false
set_option linter.unusedVariables false
set_option linter.unnecessarySimpa false
namespace Go.Proofs.Ytbkpiljencaoeaa
open Go Go.ChangeShapes Go.WideShapes Go.ChangeAt Go.RowKit Go.Sx Go.Gr Go.Dk
set_option maxRecDepth 100000
theorem graphEither_lifted (os : Os) (started : os.Started) (H : Type) (enc : TypeId × Value → H) :
  ReturnsInHanded {} Try.checked os 3 .any (Rows.graphEitherSpec.pre6 enc Try.prog Try.f3 Rows.graphEitherRow.domain false) (Rows.graphEitherSpec.post enc Try.prog Try.f3 false true false false) := by
 refine returnsInHanded_of_change (C := Try.checked) Try.ownH started (by kernel_rfl) Try.func3
  (ChangeSpec.witness6 (enc := enc) (C := Try.checked) false ⟨#[], #[.int .i64 0, .slice none 0 0], []⟩ 8 (by kernel_rfl) (by kernel_rfl) (by kernel_rfl) (by kernel_rfl)) ?_
 intro W base args ds gs before hval0 hW hcnd _
 have hval : ∀ (j : Nat) t v, Try.f3.params[j]? = some t → args[j]? = some v → Value.okWide Try.prog W .any base t v := hval0
 have hW' := hW
 obtain ⟨p, q, hA0, hV, rfl, hfz, hnd⟩ := hW
 have hA : DataW.TrodAll enc Try.prog W 0 (fun _ => true) true Try.f3.params.toList args.toList ds p := hA0
 rw [Try.params3] at hA hval
 obtain ⟨v1, v2, d1, d2, p1, p2, rfl, rfl, rfl, h1, h2⟩ := trodAll_two hA
 obtain ⟨rfl, rfl⟩ := trodVars_none hV
 clear hA0 hval0
 simp only [List.append_nil] at hW'
 have hlt : ∀ x ∈ p1 ++ p2, x.block < W.heap.size := fun x hx => hW'.lt x hx
 obtain ⟨o, rfl, wo, rfl, h1'⟩ := Dk.open_int Try.underlying3 (hval 0 3 v1 rfl rfl) h1
 obtain ⟨A, c, l, rfl, hr⟩ := open_edges (hval 1 22 v2 rfl rfl) h2
 refine Calls.mono (law3 A c o l W hr) fun e W' he => ?_
 cases e with
 | panicked ch => exact he.elim
 | outgrown => exact he.elim
 | returned v =>
  obtain ⟨rfl, hk⟩ := he
  have hb : Below W.heap.size W W' := ⟨hk.os, hk.tape, hk.output, hk.size, hk.block⟩
  exact ⟨_, rfl, Dk.post_of_below (pa := [] ++ p2) (pv := []) hW' (fun _ _ _ => trodAll_mk1 (shut_bool Try.underlying4 true))
   (fun sp hsp => trodAll_mk2 (h1' _ _ _ _)
    (WideElems.Trod_stays Try.laidOutH (by kernel_rfl) (of_decide_eq_true (by kernel_rfl)) h2 (fun x hx => hb.same (hlt x (by simp [hx]))) (fun x hx => hsp x (by simp [hx]))))
   (fun _ _ => rfl) (by simp) hb (ok_one (by kernel_rfl) rfl (okWide_bool_mk Try.underlying4 true))⟩
theorem graphEither_holds : Rows.GraphEitherSaid :=
 OpenClaim.holds_of_wide 3 Try.f3 rfl rfl rfl rfl rfl rfl rfl ⟨rfl, rfl, rfl, rfl, rfl⟩ rfl rfl rfl rfl rfl (by kernel_rfl) Try.func3 (by kernel_rfl)
  (of_decide_eq_true (by kernel_rfl)) (by unfold Func.isWrapper; first | (rw [if_pos (by decide +kernel)]; kernel_rfl) | (rw [if_neg (by decide +kernel)]; exact ⟨rfl, rfl⟩))
  (fun os started H enc _ => graphEither_lifted os started H enc)
end Go.Proofs.Ytbkpiljencaoeaa
