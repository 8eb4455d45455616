/- asm.Labels; the chapter's first example. -/
import Derived.Test.YtaiajnehnjnadaaDoorLAsW5
import Derived.Test.YtaiajnehnjnadaaDoorLAsCodeL
set_option linter.unusedSimpArgs false
set_option linter.unusedVariables false
set_option linter.unnecessarySimpa false
namespace Go.Proofs.YtaiajnehnjnadaaDoor
open Go Go.Sx Go.Isa Go.Asm
set_option maxRecDepth 100000
def alT : B := [108, 111, 111, 112, 58, 10, 32, 108, 111, 97, 100, 32, 49, 32, 48, 32, 56, 10, 32, 101, 113, 32, 49, 32, 48, 32, 108, 111, 111, 112, 32, 59, 32, 97, 103, 97, 105, 110, 10, 104, 97, 108, 116]
theorem alT_is : asmL alT = ([⟨11, 1, 0, 0, 8⟩, ⟨14, 1, 0, 0, 0⟩, ⟨1, 0, 0, 0, 0⟩], [([108, 111, 111, 112], 0)], 0) := by kernel_rfl
theorem alive10 (w : World) (hG : ShAt w) (hT : TabAt w) (hLb : LibAt w) : CallsV Tryd.prog 10 [] w fun v w' => v = .bool true ∧ Fresh w w' := by
 refine calls_go (keep := K10) (nt := 34) (svs := []) Tryd.func10 x10 n10 (by simp) (by simp [IsL]) fun R hR => ?_
 (refine Y_go 600 ?_; dsimp only [X10, numF, zq9r, zq9q, Y_k, zq4u, zq8p, zq6p, YK, zq8t, zq9i, normF, zq6n, Nat.reduceBEq, zq6k, zq6l, zq6m, zq86, zq8a, zq9y, t10n1, T10n1, zq9j])
 refine call_rule (vs := [.string ⟨⟨alT⟩⟩]) rfl (R := fun W v W' => ∃ (A : Option Addr) (c : Nat), v = .tuple #[.slice A 3 c, .int .i64 0, .int .i64 0] ∧ World.ownsB W' W.heap.size 43 5 (.slice A 3 c) 3 (cellsI [⟨11, 1, 0, 0, 8⟩, ⟨14, 1, 0, 0, 0⟩, ⟨1, 0, 0, 0, 0⟩]) ∧ Fresh W W') (fun W hW => (assemble66 alT W (by decide) (hG.keep hW.fresh') (hT.keep hW.fresh') (hLb.keep hW.fresh')).mono fun v w' h => by rw [alT_is] at h; exact h) fun W v W' hW ⟨A, c, hv, ho, hk⟩ => ?_
 obtain ⟨A', c', e1, e2, e5, _⟩ := hW.gain ho hk
 injection e1 with e3 _ e4
 subst e3; subst e4; subst hv
 refine ⟨.tup [.own 0 0, .val (.int .i64 0), .val (.int .i64 0)], _, ?_, e2, e5, ?_⟩
 ·simp only [Is, IsL]; exact ⟨_, ⟨_, _, ⟨_, _, _, _, _, _, _, rfl, Nat.le_refl _, ⟨_, _, _, rfl⟩, fun _ => rfl⟩, ⟨_, _, rfl, ⟨_, _, rfl, rfl, rfl⟩, rfl⟩, rfl⟩, rfl⟩
 clear e5 e2 hW ho hk
 (refine Y_go 600 ?_; dsimp only [zq8t, List.nil_append, Y_k, zq4u, zq8o, zq6n, Nat.reduceBEq, zq6k, YK, zq5j, zq2f, nth, zq2e, zq6l, zq9i, normF, zq87, zq8f, zq8a, zq9y, t10n0, T10n0, zq9r, zq9q, zq50, zq8p, zq6q, zq04, zq92, zq9b, zq0i, zq9c, Y_gk, zq6d, YR, zq69, zq4v, zq6p, zq0b, zq55, zq0t, zq09, zq08, zq0q, zq58, zq06, zq0y, zq0v, Int.reduceToNat, Nat.reduceMul, zq5c, zq1q, zq1n, zq1c, Nat.reduceAdd, List.cons_append, zq1b, zq17, zq5g, List.map, zq21, zq7u, zq73, zq0a, dropL, takeL, zq20, splice, setn, zq22, zq25, zq5s, zq3o, eqSV, zq3q, zq5a, zq15, Nat.add_zero, zq13, zq18, zq9x, YS, zq6b, zq0c])
 refine ⟨fun _ => ⟨fun _ => ⟨fun _ => ⟨⟨by omega, by omega⟩, 14, rfl, 1, rfl, 0, rfl, 0, rfl, 0, rfl, fun _ => ⟨⟨by omega, by omega⟩, 1, rfl, ret_rule (vs := [.bool true]) r10 rfl rfl fun W hW => hR _ _ ⟨rfl, hW.fresh'⟩⟩, fun h => absurd h (by decide)⟩, fun h => absurd h (by decide)⟩, fun h => absurd h (by decide)⟩, fun h => absurd h (by decide)⟩
end Go.Proofs.YtaiajnehnjnadaaDoor
