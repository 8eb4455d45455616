/- cmp.Compare at int, and what SortFunc is given at entries, by the kit's tactics. -/
import Derived.Shelf.Lay
import Derived.Sort.Grow
import Derived.WalkKit
import Derived.Deep.RegionHeld
import Derived.Deep.RegionWith
import Derived.Deep.Draws
import Derived.Deep.LoopGhost
import Derived.Ground.NamesProg
import Derived.Test.YtimmobbginjkfaaProg
import Derived.Test.YtimmobbginjkfaaCaPlain
set_option linter.unusedSimpArgs false
set_option linter.unusedVariables false
set_option linter.unnecessarySimpa false
namespace Go.Proofs.Ytimmobbginjkfaa
open Go Go.Proofs Go.Shelf Go.RowKit Go.Sort Go.Ca
set_option linter.unusedVariables false
set_option maxRecDepth 100000
theorem nan45 (x : Int) (W : World) : Calls Try.prog 45 #[.int .i64 x] W fun e w' => e = .returned (.bool false) ∧ w' = W := by
 go_enter Try.func45, Try.ntmps45
 go_wp2
 go_ret
 exact ⟨by simp, rfl⟩
set_option maxHeartbeats 1000000 in
theorem compare27 (x y : Int) (W : World) : Calls Try.prog 27 #[.int .i64 x, .int .i64 y] W fun e w' => e = .returned (.int .i64 (if x < y then -1 else if y < x then 1 else 0)) ∧ w' = W := by
 have hn : ∀ x W', Calls Try.prog 45 #[.int .i64 x] W' fun e w' => e = .returned (.bool false) ∧ w' = W' := nan45
 by_cases h1 : x < y
 ·go_enter Try.func27, Try.ntmps27
  go_wp2_with (go_at_call 45; refine (hn _ _).mono ?_; rintro e w' ⟨rfl, rfl⟩)
  go_ret
  exact ⟨rfl, rfl⟩
 ·by_cases h2 : y < x
  ·go_enter Try.func27, Try.ntmps27
   go_wp2_with (go_at_call 45; refine (hn _ _).mono ?_; rintro e w' ⟨rfl, rfl⟩)
   go_ret
   exact ⟨rfl, rfl⟩
  ·go_enter Try.func27, Try.ntmps27
   go_wp2_with (go_at_call 45; refine (hn _ _).mono ?_; rintro e w' ⟨rfl, rfl⟩)
   go_ret
   exact ⟨rfl, rfl⟩
def cmpE (x y : En) : Int := if x.line < y.line then -1 else if y.line < x.line then 1 else 0
set_option maxHeartbeats 2000000 in
theorem closure26 (x y : En) (W : World) : Calls Try.prog 26 #[.agg (enV x).toArray, .agg (enV y).toArray] W fun e w' => e = .returned (.int .i64 (cmpE x y)) ∧ ∃ q os', w' = grow (W.drewN q) os' := by
 have hc := fun W' => compare27 x.line y.line W'
 unfold cmpE
 generalize (if x.line < y.line then -1 else if y.line < x.line then 1 else 0 : Int) = r1 at hc ⊢
 obtain ⟨a, a1, a2, a3, a4, a5, a6⟩ := x
 obtain ⟨b, b1, b2, b3, b4, b5, b6⟩ := y
 simp only at hc
 unfold enV
 simp only
 go_enter Try.func26, Try.ntmps26
 go_wp2_with (go_at_call 27; refine (hc _).mono ?_; rintro e w' ⟨rfl, rfl⟩)
 go_ret
 exact ⟨rfl, 0, _, by rw [alloc_eq_grow, alloc_eq_grow, grow_grow]; rfl⟩
end Go.Proofs.Ytimmobbginjkfaa
