/- The run of this closed statement, walked by the kernel. -/
import Derived.Test.YteangihncecdeaaGreatDoorOnMade1
set_option linter.unusedSimpArgs false
set_option linter.unusedVariables false
set_option linter.unnecessarySimpa false
namespace Go.Proofs.YteangihncecdeaaGreatDoor
open Go Go.Kx
set_option maxRecDepth 100000
noncomputable def kD : Cfg := ⟨Kt.kT, [(shG, shC), (pwG, pwC)], [], [md0, md1, md2, md3, md4, md5, md6, md7, md8, md9, md10], LibE⟩
theorem kOkD : TabOk Tryz.prog kD := tabOk_of Kt.hL Kt.hT (by kernel_rfl) (List.forall_mem_cons.2 ⟨md0_ok, List.forall_mem_cons.2 ⟨md1_ok, List.forall_mem_cons.2 ⟨md2_ok, List.forall_mem_cons.2 ⟨md3_ok, List.forall_mem_cons.2 ⟨md4_ok, List.forall_mem_cons.2 ⟨md5_ok, List.forall_mem_cons.2 ⟨md6_ok, List.forall_mem_cons.2 ⟨md7_ok, List.forall_mem_cons.2 ⟨md8_ok, List.forall_mem_cons.2 ⟨md9_ok, List.forall_mem_cons.2 ⟨md10_ok, (fun _ h => by cases h)⟩⟩⟩⟩⟩⟩⟩⟩⟩⟩⟩)
theorem saidF : said true (callF kD (run kD 1000000) 3 ([].map .v) ⟨.e, 0⟩) = true := by kernel_rfl
end Go.Proofs.YteangihncecdeaaGreatDoor
