/- The law IsaApart: which an operation names; the walk. -/
import Derived.Test.YtpoopljpodkdcaaDoorIgPlain
import Derived.Test.YtpoopljpodkdcaaDoorIdLaw6
import Derived.Test.YtpoopljpodkdcaaDoorIdAlive
import Derived.Test.YtpoopljpodkdcaaDoorIgCode
set_option linter.unusedSimpArgs false
set_option linter.unusedVariables false
set_option linter.unnecessarySimpa false
namespace Go.Proofs.YtpoopljpodkdcaaDoor
open Go Go.Sx Go.Isa
set_option maxRecDepth 100000

theorem named19 (op : Int) (w : World) : CallsV Tryd.prog 19 [.int .i64 op] w fun v w' => v = .agg #[.bool (nm0 op), .bool (nm1 op), .bool (nm2 op)] ∧ Fresh w w' := by
  refine calls_go (keep := K19) (nt := 25) (svs := [.val (.int .i64 op)]) Tryd.func19 x19 n19 (by simp) (by simp [IsL, Is]) fun R hR => ?_
  (refine Y_go 600 ?_; dsimp only [zq00, zq01, zq02, zq03, zq04, zq05, zq06, zq07, zq08, zq09, zq0a, zq0b, zq0c, zq0d, zq0e, zq0f, zq0g, zq0h, zq0i, zq0j, zq0k, zq0l, zq0m, zq0n, zq0o, zq0p, zq0q, zq0r, zq0s, zq0t, zq0u, zq0v, zq0w, zq0x, zq0y, zq0z, zq10, zq11, zq12, zq13, zq14, zq15, zq16, zq17, zq18, zq19, zq1a, zq1b, zq1c, zq1d, zq1e, zq1f, zq1g, zq1h, zq1i, zq1j, zq1k, zq1l, zq1m, zq1n, zq1o, zq1p, zq1q, zq1r, zq1s, zq1t, zq1u, zq1v, zq1w, zq1x, zq1y, zq1z, zq20, zq21, zq22, zq23, zq24, zq25, zq26, zq27, zq28, zq29, zq2a, zq2b, zq2c, zq2d, zq2e, zq2f, zq2g, zq2h, zq2i, zq2j, zq2k, zq2l, zq2m, zq2n, zq2o, zq2p, zq2q, zq2r, zq2s, zq2t, zq2u, zq2v, zq2w, zq2x, zq2y, zq2z, zq30, zq31, zq32, zq33, zq34, zq35, zq36, zq37, zq38, zq39, zq3a, zq3b, zq3c, zq3d, zq3e, zq3f, zq3g, zq3h, zq3i, zq3j, zq3k, zq3l, zq3m, zq3n, zq3o, zq3p, zq3q, zq3r, zq3s, zq3t, zq3u, zq3v, zq3w, zq3x, zq3y, zq3z, zq40, zq41, zq42, zq43, zq44, zq45, zq46, zq47, zq48, zq49, zq4a, zq4b, zq4c, zq4d, zq4e, zq4f, zq4g, zq4h, zq4i, zq4j, zq4k, zq4l, zq4m, zq4n, zq4o, zq4p, zq4q, zq4r, zq4s, zq4t, zq4u, zq4v, zq4w, zq4x, zq4y, zq4z, zq50, zq51, zq52, zq53, zq54, zq55, zq56, zq57, zq58, zq59, zq5a, zq5b, zq5c, zq5d, zq5e, zq5f, zq5g, zq5h, zq5i, zq5j, zq5k, zq5l, zq5m, zq5n, zq5o, zq5p, zq5q, zq5r, zq5s, zq5t, zq5u, zq5v, zq5w, zq5x, zq5y, zq5z, zq60, zq61, zq62, zq63, zq64, zq65, zq66, zq67, zq68, zq69, zq6a, zq6b, zq6c, zq6d, zq6e, zq6f, zq6g, zq6h, zq6i, zq6j, zq6k, zq6l, zq6m, zq6n, zq6o, zq6p, zq6q, zq6r, zq6s, zq6t, zq6u, zq6v, zq6w, zq6x, zq6y, zq6z, zq70, zq71, zq72, zq73, zq74, zq75, zq76, zq77, zq78, zq79, zq7a, zq7b, zq7c, zq7d, zq7e, zq7f, zq7g, zq7h, zq7i, zq7j, zq7k, zq7l, zq7m, zq7n, zq7o, zq7p, zq7q, zq7r, zq7s, zq7t, zq7u, zq7v, zq7w, zq7x, zq7y, zq7z, zq80, zq81, zq82, zq83, zq84, zq85, zq86, zq87, zq88, zq89, zq8a, zq8b, zq8c, zq8d, zq8e, zq8f, zq8g, zq8h, zq8i, zq8j, zq8k, zq8l, zq8m, zq8n, zq8o, zq8p, zq8q, zq8r, zq8s, zq8t, zq8u, zq8v, Y_k, Y_gk, zq8w, zq8x, zq8y, zq8z, zq90, zq91, zq92, zq93, zq94, zq95, zq96, zq97, zq98, zq99, zq9a, zq9b, zq9c, zq9d, zq9e, zq9f, zq9g, YK, YR, YS, YG, YC, YP, normF, popTo, nth, setn, evL, takeL, dropL, splice, repL, denL, den, blk, eqSV, List.map, List.length, List.cons_append, List.nil_append, List.length_cons, List.length_nil, Int.reduceToNat, Nat.reduceBEq, Nat.reduceAdd, Nat.reduceMul, Nat.reduceSub, beq_self_eq_true, Nat.zero_add, Nat.add_zero, numF, X19, t19n0, T19n0, t19n1, T19n1, t19n2, T19n2, t19n3, T19n3, t19n4, T19n4, t19n5, T19n5, t19n6, T19n6, t19n7, T19n7, t19n8, T19n8, t19n9, T19n9, t19n10, T19n10, t19n11, T19n11, t19n12, T19n12, t19n13, T19n13, t19n14, T19n14, t19n15, T19n15, t19n16, T19n16, t19n17, T19n17, t19n18, T19n18])
  intro g2
  have fin : ∀ s b0 b1 b2, denR s.H s.F [RV.cell 2 3 true] = some [.agg #[.bool b0, .bool b1, .bool b2]] → b0 = nm0 op → b1 = nm1 op → b2 = nm2 op → RetG (cxOf Tryd.prog Tryd.f19 K19 T19 R) ⟨w, w.heap.size, [], 25, []⟩ s := fun s b0 b1 b2 hs h0 h1 h2 =>
    ret_rv (vs := [.agg #[.bool b0, .bool b1, .bool b2]]) Go.Proofs.YtpoopljpodkdcaaDoor.r19 rfl hs fun W hW => hR _ _ ⟨by rw [h0, h1, h2]; rfl, hW.fresh'⟩
  refine ⟨fun h => ?_, fun e2 => ⟨fun h => ?_, fun e3 => ⟨fun h => ?_, fun e11 => ⟨fun h => ?_, fun e12 => ⟨fun h => ?_, fun e14 => ⟨fun h => ?_, fun e15 => ⟨fun h => ?_, fun e16 => ⟨fun h => ?_, fun e4 => ⟨fun h => ?_, fun e5 => ⟨fun h => ?_, fun e6 => ⟨fun h => ?_, fun e7 => ⟨fun h => ?_, fun e8 => ⟨fun h => ?_, fun e9 => ⟨fun h => ?_, fun e10 => ?_⟩⟩⟩⟩⟩⟩⟩⟩⟩⟩⟩⟩⟩⟩
  · have h := eq_of_beq h; subst h; exact fin _ true false false rfl rfl rfl rfl
  · have h := eq_of_beq h; subst h; exact fin _ true true false rfl rfl rfl rfl
  · have h := eq_of_beq h; subst h; exact fin _ true true false rfl rfl rfl rfl
  · have h := eq_of_beq h; subst h; exact fin _ true true false rfl rfl rfl rfl
  · have h := eq_of_beq h; subst h; exact fin _ true true false rfl rfl rfl rfl
  · have h := eq_of_beq h; subst h; exact fin _ true true false rfl rfl rfl rfl
  · have h := eq_of_beq h; subst h; exact fin _ true true false rfl rfl rfl rfl
  · have h := eq_of_beq h; subst h; exact fin _ true true true rfl rfl rfl rfl
  · have h := eq_of_beq h; subst h; exact fin _ true true true rfl rfl rfl rfl
  · have h := eq_of_beq h; subst h; exact fin _ true true true rfl rfl rfl rfl
  · have h := eq_of_beq h; subst h; exact fin _ true true true rfl rfl rfl rfl
  · have h := eq_of_beq h; subst h; exact fin _ true true true rfl rfl rfl rfl
  · have h := eq_of_beq h; subst h; exact fin _ true true true rfl rfl rfl rfl
  · have h := eq_of_beq h; subst h; exact fin _ true true true rfl rfl rfl rfl
  · exact fin _ false false false rfl (by simp only [nm0, e2, e3, e4, e5, e6, e7, e8, e9, e10, e11, e12, e14, e15, e16]; rfl) (by simp only [nm1, e2, e3, e4, e5, e6, e7, e8, e9, e10, e11, e12, e14, e15, e16]; rfl) (by simp only [nm2, e2, e3, e4, e5, e6, e7, e8, e9, e10, e11, e12, e14, e15, e16]; rfl)
end Go.Proofs.YtpoopljpodkdcaaDoor
