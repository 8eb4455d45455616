/- LintPlaces: the statement, walked. -/
import Derived.Test.YtlbiogokpadaoaaGreatDoorLpPl10
import Derived.Test.YtlbiogokpadaoaaGreatDoorLaPlain
set_option linter.unusedSimpArgs false
set_option linter.unusedVariables false
set_option linter.unnecessarySimpa false
namespace Go.Proofs.YtlbiogokpadaoaaGreatDoor
open Go Go.Sx Go.Isa Go.Asm Go.Lint
set_option maxRecDepth 100000
def LibN (w : World) : Prop := ShAt w ∧ NmAt w ∧ TabAt w ∧ LibAt w
theorem LibN.keep {w w' : World} (h : LibN w) (k : Fresh w w') : LibN w' := ⟨h.1.keep k, h.2.1.keep k, h.2.2.1.keep k, h.2.2.2.keep k⟩
theorem law10 (l : List In) (A : Option Addr) (c : Nat) (w : World) (hr : RowAt w A (cellsI l)) (hG : ShAt w) (hN : NmAt w) (hT : TabAt w) (hL : LibAt w) :
  CallsV Tryz.prog 10 [.slice A l.length c] w fun v w' => Fresh w w' ∧ v = .bool true :=
 (places10 l A c w hr hG LibN (fun _ _ h k => h.keep k) ⟨hG, hN, hT, hL⟩ (fun W h => alive20 W h.1 h.2.1 h.2.2.1 h.2.2.2)).mono fun v w' h => ⟨h.2, h.1⟩
end Go.Proofs.YtlbiogokpadaoaaGreatDoor
