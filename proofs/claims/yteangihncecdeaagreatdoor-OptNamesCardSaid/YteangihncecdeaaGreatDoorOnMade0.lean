/- Answers by runs of their own, over the known ones. -/
import Derived.Test.YteangihncecdeaaGreatDoorOnMem
set_option linter.unusedSimpArgs false
set_option linter.unusedVariables false
set_option linter.unnecessarySimpa false
namespace Go.Proofs.YteangihncecdeaaGreatDoor
open Go Go.Kx
set_option maxRecDepth 100000
def md0 : Mem := ⟨4, [.string ⟨⟨[115, 101, 116, 32, 49, 32, 50, 10, 115, 101, 116, 32, 50, 32, 51, 10, 97, 100, 100, 32, 49, 32, 49, 32, 50, 10, 104, 97, 108, 116]⟩⟩, .string ⟨⟨[115, 101, 116, 32, 49, 32, 50, 10, 115, 101, 116, 32, 50, 32, 51, 10, 115, 101, 116, 32, 49, 32, 53, 10, 104, 97, 108, 116]⟩⟩], [.pl (.bool true)]⟩
theorem md0_ok : Sx.fnOk Tryz.prog md0.f = true ∧ ∀ E : KE, SameG kC1 E → E.Ok → ∀ W, Sx.Keep (· < E.N) E.b W → E.N ≤ W.heap.size → Sx.CallsV Tryz.prog md0.f md0.args W (MPost md0 W) :=
  memo_of kOk rfl (fun w w' hf hq => hq.keep hf) (n := 1000000) (by kernel_rfl) (by kernel_rfl)
def md1 : Mem := ⟨4, [.string ⟨⟨[106, 117, 109, 112, 32, 50, 10, 104, 97, 108, 116, 10, 106, 117, 109, 112, 32, 51, 10, 115, 101, 116, 32, 49, 32, 49]⟩⟩, .string ⟨⟨[115, 101, 116, 32, 49, 32, 49]⟩⟩], [.pl (.bool true)]⟩
theorem md1_ok : Sx.fnOk Tryz.prog md1.f = true ∧ ∀ E : KE, SameG kC1 E → E.Ok → ∀ W, Sx.Keep (· < E.N) E.b W → E.N ≤ W.heap.size → Sx.CallsV Tryz.prog md1.f md1.args W (MPost md1 W) :=
  memo_of kOk rfl (fun w w' hf hq => hq.keep hf) (n := 1000000) (by kernel_rfl) (by kernel_rfl)
def md2 : Mem := ⟨4, [.string ⟨⟨[115, 101, 116, 32, 49, 32, 49, 10, 101, 113, 32, 49, 32, 49, 32, 51, 10, 115, 101, 116, 32, 50, 32, 57, 10, 104, 97, 108, 116]⟩⟩, .string ⟨⟨[115, 101, 116, 32, 49, 32, 49, 10, 104, 97, 108, 116]⟩⟩], [.pl (.bool true)]⟩
theorem md2_ok : Sx.fnOk Tryz.prog md2.f = true ∧ ∀ E : KE, SameG kC1 E → E.Ok → ∀ W, Sx.Keep (· < E.N) E.b W → E.N ≤ W.heap.size → Sx.CallsV Tryz.prog md2.f md2.args W (MPost md2 W) :=
  memo_of kOk rfl (fun w w' hf hq => hq.keep hf) (n := 1000000) (by kernel_rfl) (by kernel_rfl)
def md3 : Mem := ⟨4, [.string ⟨⟨[108, 111, 111, 112, 58, 10, 106, 117, 109, 112, 32, 108, 111, 111, 112]⟩⟩, .string ⟨⟨[108, 111, 111, 112, 58, 10, 106, 117, 109, 112, 32, 108, 111, 111, 112]⟩⟩], [.pl (.bool true)]⟩
theorem md3_ok : Sx.fnOk Tryz.prog md3.f = true ∧ ∀ E : KE, SameG kC1 E → E.Ok → ∀ W, Sx.Keep (· < E.N) E.b W → E.N ≤ W.heap.size → Sx.CallsV Tryz.prog md3.f md3.args W (MPost md3 W) :=
  memo_of kOk rfl (fun w w' hf hq => hq.keep hf) (n := 1000000) (by kernel_rfl) (by kernel_rfl)
def md4 : Mem := ⟨4, [.string ⟨⟨[108, 111, 97, 100, 32, 49, 32, 48, 32, 56, 10, 110, 101, 32, 49, 32, 50, 32, 48, 10, 106, 117, 109, 112, 32, 52, 10, 104, 97, 108, 116, 10, 115, 101, 116, 32, 49, 32, 49]⟩⟩, .string ⟨⟨[108, 111, 97, 100, 32, 49, 32, 48, 32, 56, 10, 110, 101, 32, 49, 32, 50, 32, 48, 10, 115, 101, 116, 32, 49, 32, 49]⟩⟩], [.pl (.bool true)]⟩
theorem md4_ok : Sx.fnOk Tryz.prog md4.f = true ∧ ∀ E : KE, SameG kC1 E → E.Ok → ∀ W, Sx.Keep (· < E.N) E.b W → E.N ≤ W.heap.size → Sx.CallsV Tryz.prog md4.f md4.args W (MPost md4 W) :=
  memo_of kOk rfl (fun w w' hf hq => hq.keep hf) (n := 1000000) (by kernel_rfl) (by kernel_rfl)
def md5 : Mem := ⟨4, [.string ⟨⟨[]⟩⟩, .string ⟨⟨[]⟩⟩], [.pl (.bool true)]⟩
theorem md5_ok : Sx.fnOk Tryz.prog md5.f = true ∧ ∀ E : KE, SameG kC1 E → E.Ok → ∀ W, Sx.Keep (· < E.N) E.b W → E.N ≤ W.heap.size → Sx.CallsV Tryz.prog md5.f md5.args W (MPost md5 W) :=
  memo_of kOk rfl (fun w w' hf hq => hq.keep hf) (n := 1000000) (by kernel_rfl) (by kernel_rfl)
end Go.Proofs.YteangihncecdeaaGreatDoor
