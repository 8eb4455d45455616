/- The chapter's first two examples, by their run. -/
import Derived.Test.YtnedgfkgmdoahaaAlKt
set_option linter.unusedSimpArgs false
set_option linter.unusedVariables false
set_option linter.unnecessarySimpa false
namespace Go.Proofs.Ytnedgfkgmdoahaa
open Go Go.Kx

def kC : Cfg := ⟨Kt.kT, [], [], []⟩
theorem kOk : TabOk Try.prog kC := tabOk_of Kt.hL Kt.hT (by kernel_rfl) (fun _ h => by cases h)
theorem said15 : said true (callF kC (run kC 1000000) 15 ([].map .v) ⟨.e, 0⟩) = true := by kernel_rfl
theorem alive15 (W : World) : Sx.CallsV Try.prog 15 [] W fun u w' => u = .bool true ∧ Sx.Fresh W w' := by
  obtain ⟨S', h⟩ := said_spec said15
  exact closed_call kOk (fun g l hg => by cases hg) h
end Go.Proofs.Ytnedgfkgmdoahaa
