/- isa's chapter's first examples hold: the run of 'alive', walked by the kernel. -/
import Derived.Test.YtpoopljpodkdcaaDoorIdLaw1
import Derived.Test.YtpoopljpodkdcaaDoorIaKt
set_option linter.unusedSimpArgs false
set_option linter.unusedVariables false
set_option linter.unnecessarySimpa false
namespace Go.Proofs.YtpoopljpodkdcaaDoor
open Go Go.Kx
def kA : Cfg := ⟨Kt.kT, [(0, shL)], [], []⟩
theorem kAok : TabOk Tryd.prog kA := tabOk_of Kt.hL Kt.hT (by kernel_rfl) (fun _ h => by cases h)
theorem kAG {W : World} (h : ShAt W) : (KE.mk W W.heap.size kA.G).Ok := by
  intro g l hg
  simp only [kA, List.mem_cons, List.mem_nil_iff, or_false, Prod.mk.injEq] at hg
  obtain ⟨rfl, rfl⟩ := hg
  have h0 := h 0 _ rfl
  obtain ⟨a, ha, hb, _⟩ := h0
  injection ha with ha; subst ha
  refine ⟨hb, fun j u hj => ?_⟩
  obtain ⟨a, ha, _, hc⟩ := h j u hj
  injection ha with ha; subst ha
  have e : (⟨0, 0, none⟩ : Addr).add j = ⟨0, j, none⟩ := by unfold Addr.add; split <;> simp_all
  rw [e] at hc; exact hc
theorem said18 : said true (callF kA (run kA 1000000) 18 ([].map .v) ⟨.e, 0⟩) = true := by kernel_rfl
theorem alive18 (W : World) (h : ShAt W) : Sx.CallsV Tryd.prog 18 [] W fun u w' => u = .bool true ∧ Sx.Fresh W w' := by
  obtain ⟨S', hs⟩ := said_spec said18
  exact closed_call kAok (kAG h) hs
end Go.Proofs.YtpoopljpodkdcaaDoor
