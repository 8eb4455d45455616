/- slices.Grow at numbers, of the nil slice: the kit's shelf contract, laid at this program (text printed by tools/ShText), as the engine's. -/
import Derived.Shelf.Spec.SlicesGrow
import Derived.Test.YtbkpiljencaoeaaProg
import Derived.Test.YtbkpiljencaoeaaGrCmp
import Derived.KernelRfl
set_option linter.unusedSimpArgs false
set_option linter.unusedVariables false
set_option linter.unnecessarySimpa false
namespace Go.Proofs.Ytbkpiljencaoeaa
open Go Go.Sx Go.Gr Go.Proofs Go.Shelf Go.RowKit Go.Lib
set_option maxRecDepth 1000000
set_option linter.unusedVariables false
def lays48_ren : Go.Shelf.Ren := ⟨fun | 4 => 48 | n => n, fun | 22 => 24 | 25 => 3 | n => n, fun | n => n⟩
theorem lays48 : Go.Proofs.Lays8.n4 Try.prog lays48_ren := {
 mixed := by kernel_rfl,
 f4 := by first | exact Try.func48.trans (congrArg some (by kernel_rfl)) | exact ⟨Try.f48.name, by kernel_rfl, Try.func48.trans (congrArg some (by kernel_rfl))⟩,
 t0 := Try.underlying0,
 a0 := Try.isAgg0,
 z0 := Try.sizeOf0,
 v0 := Try.zeroValue0,
 t3 := Try.underlying3,
 a3 := Try.isAgg3,
 z3 := Try.sizeOf3,
 v3 := Try.zeroValue3,
 t4 := Try.underlying4,
 a4 := Try.isAgg4,
 z4 := Try.sizeOf4,
 v4 := Try.zeroValue4,
 t9 := Try.underlying9,
 a9 := Try.isAgg9,
 z9 := Try.sizeOf9,
 v9 := Try.zeroValue9,
 t20 := Try.underlying20,
 a20 := Try.isAgg20,
 z20 := Try.sizeOf20,
 v20 := Try.zeroValue20,
 t22 := Try.underlying24,
 a22 := Try.isAgg24,
 z22 := Try.sizeOf24,
 v22 := Try.zeroValue24 }
theorem zero3 : ∃ i0 z, Try.prog.info? 3 = some i0 ∧ i0.zero = some z ∧ i0.size = 1 ∧ i0.bytes = 8 ∧ z.cells = #[.int .i64 0] := by
 have h : (Try.prog.info? 3).bind (fun i => i.zero.map fun z => (i.size, i.bytes, z.cells)) = some (1, 8, #[.int .i64 0]) := by kernel_rfl
 cases h1 : Try.prog.info? 3 with
 | none => rw [h1] at h; cases h
 | some i0 =>
  rw [h1] at h
  simp only [Option.bind_some] at h
  cases h2 : i0.zero with
  | none => rw [h2] at h; cases h
  | some z =>
   rw [h2] at h
   simp only [Option.map_some, Option.some.injEq, Prod.mk.injEq] at h
   exact ⟨i0, z, rfl, h2, h.1, h.2.1, h.2.2⟩
theorem grow48 (n : Nat) (w : World) (h0 : 0 < n) (hn : n ≤ 1000000) : CallsV Try.prog 48 [.slice none 0 0, .int .i64 n] w fun v w' => World.ownsB w' w.heap.size 3 1 v 0 [] ∧ Fresh w w' := by
 obtain ⟨i0, z, hi, hz, hs, hb, hc⟩ := zero3
 have h := Any8.slices_Grow_grow lays48 i0 z hi hz (by omega) none 0 0 n [] w (Nat.le_refl _) (by omega) (by rw [hb]; omega) (by omega) (by simp) (fun _ => rfl) (fun a e => by cases e)
 change Calls Try.prog 48 _ _ _ at h
 refine Calls.mono h ?_
 rintro e w' ⟨rfl, rfl⟩
 have hge : 0 + n ≤ grownCap w (0 + n) 0 (lays48_ren.t 25) := grownCap_ge w _ _ _
 have hle := grownCap_le_maxLen w (0 + n) 0 (lays48_ren.t 25) (by unfold maxLen; omega)
 generalize grownCap w (0 + n) 0 (lays48_ren.t 25) = G at hge hle ⊢
 refine ⟨⟨rfl, .inr ⟨w.heap.size, 0, G, _, rfl, Nat.le_refl _, heap_alloc_new w.drew _, Nat.zero_le _, hle, ?_, by simp⟩⟩, ⟨rfl, rfl, rfl, by simp, fun k hk => heap_alloc_old w.drew _ hk⟩⟩
 rw [hc]
 simp [Builtin.zeroCells]
 omega
end Go.Proofs.Ytbkpiljencaoeaa
