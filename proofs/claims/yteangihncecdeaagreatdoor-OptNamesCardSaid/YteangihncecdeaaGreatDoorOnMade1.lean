/- Answers by runs of their own, over the known ones. -/
import Derived.Test.YteangihncecdeaaGreatDoorOnMade0
set_option linter.unusedSimpArgs false
set_option linter.unusedVariables false
set_option linter.unnecessarySimpa false
namespace Go.Proofs.YteangihncecdeaaGreatDoor
open Go Go.Kx
set_option maxRecDepth 100000
def md6 : Mem := ⟨4, [.string ⟨⟨[115, 101, 116, 32, 49, 32, 45, 49, 10, 115, 104, 114, 32, 50, 32, 49, 32, 51]⟩⟩, .string ⟨⟨[115, 101, 116, 32, 49, 32, 45, 49, 10, 115, 104, 114, 32, 50, 32, 49, 32, 51]⟩⟩], [.pl (.bool true)]⟩
theorem md6_ok : Sx.fnOk Tryz.prog md6.f = true ∧ ∀ E : KE, SameG kC1 E → E.Ok → ∀ W, Sx.Keep (· < E.N) E.b W → E.N ≤ W.heap.size → Sx.CallsV Tryz.prog md6.f md6.args W (MPost md6 W) :=
  memo_of kOk rfl (fun w w' hf hq => hq.keep hf) (n := 1000000) (by kernel_rfl) (by kernel_rfl)
def md7 : Mem := ⟨4, [.string ⟨⟨[115, 101, 116, 32, 49, 32, 45, 50, 49, 52, 55, 52, 56, 51, 54, 52, 56, 10, 109, 111, 118, 32, 50, 32, 49, 10, 97, 100, 100, 32, 51, 32, 50, 32, 49]⟩⟩, .string ⟨⟨[115, 101, 116, 32, 49, 32, 45, 50, 49, 52, 55, 52, 56, 51, 54, 52, 56, 10, 115, 101, 116, 32, 50, 32, 45, 50, 49, 52, 55, 52, 56, 51, 54, 52, 56, 10, 97, 100, 100, 32, 51, 32, 50, 32, 49]⟩⟩], [.pl (.bool true)]⟩
theorem md7_ok : Sx.fnOk Tryz.prog md7.f = true ∧ ∀ E : KE, SameG kC1 E → E.Ok → ∀ W, Sx.Keep (· < E.N) E.b W → E.N ≤ W.heap.size → Sx.CallsV Tryz.prog md7.f md7.args W (MPost md7 W) :=
  memo_of kOk rfl (fun w w' hf hq => hq.keep hf) (n := 1000000) (by kernel_rfl) (by kernel_rfl)
def md8 : Mem := ⟨4, [.string ⟨⟨[97, 58, 10, 106, 117, 109, 112, 32, 98, 10, 98, 58, 10, 106, 117, 109, 112, 32, 99, 10, 99, 58, 10, 106, 117, 109, 112, 32, 97]⟩⟩, .string ⟨⟨[106, 117, 109, 112, 32, 48]⟩⟩], [.pl (.bool true)]⟩
theorem md8_ok : Sx.fnOk Tryz.prog md8.f = true ∧ ∀ E : KE, SameG kC1 E → E.Ok → ∀ W, Sx.Keep (· < E.N) E.b W → E.N ≤ W.heap.size → Sx.CallsV Tryz.prog md8.f md8.args W (MPost md8 W) :=
  memo_of kOk rfl (fun w w' hf hq => hq.keep hf) (n := 1000000) (by kernel_rfl) (by kernel_rfl)
def md9 : Mem := ⟨4, [.string ⟨⟨[106, 117, 109, 112, 32, 50, 48, 48, 48, 10, 104, 97, 108, 116]⟩⟩, .string ⟨⟨[106, 117, 109, 112, 32, 50, 48, 48, 48]⟩⟩], [.pl (.bool true)]⟩
theorem md9_ok : Sx.fnOk Tryz.prog md9.f = true ∧ ∀ E : KE, SameG kC1 E → E.Ok → ∀ W, Sx.Keep (· < E.N) E.b W → E.N ≤ W.heap.size → Sx.CallsV Tryz.prog md9.f md9.args W (MPost md9 W) :=
  memo_of kOk rfl (fun w w' hf hq => hq.keep hf) (n := 1000000) (by kernel_rfl) (by kernel_rfl)
def md10 : Mem := ⟨4, [.string ⟨⟨[106, 117, 109, 112, 32, 53, 10, 104, 97, 108, 116, 10, 104, 97, 108, 116]⟩⟩, .string ⟨⟨[106, 117, 109, 112, 32, 53]⟩⟩], [.pl (.bool true)]⟩
theorem md10_ok : Sx.fnOk Tryz.prog md10.f = true ∧ ∀ E : KE, SameG kC1 E → E.Ok → ∀ W, Sx.Keep (· < E.N) E.b W → E.N ≤ W.heap.size → Sx.CallsV Tryz.prog md10.f md10.args W (MPost md10 W) :=
  memo_of kOk rfl (fun w w' hf hq => hq.keep hf) (n := 1000000) (by kernel_rfl) (by kernel_rfl)
end Go.Proofs.YteangihncecdeaaGreatDoor
