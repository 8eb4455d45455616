/- graph.Behind. -/
import Derived.Test.YtbkpiljencaoeaaGrB1
import Derived.Test.YtbkpiljencaoeaaGrM1
import Derived.Test.YtbkpiljencaoeaaGrCode
set_option linter.unusedSimpArgs false
set_option linter.unusedVariables false
set_option linter.unnecessarySimpa false
namespace Go.Proofs.Ytbkpiljencaoeaa
open Go Go.Sx Go.Gr
set_option maxRecDepth 100000
theorem behind26c {b : World} {N nt0 : Nat} {st mk0 : List Nat} {W : World} (n : Nat) (l : List Ed) (gm gg : Nat) (z : List (Int × NHd)) (hz : z.map (·.1) = keysR l []) (hok : okG n l)
  (hW : HeapOk ⟨b, N, st, nt0, mk0⟩ (grO gm gg n l z ++ famZ (nxU l) z) W) :
  CallsV Try.prog 26 [.pointer (some ⟨gg, 0, none⟩)] W fun v W' => ∃ B bc gs, v = .slice B n bc ∧ HeapOk ⟨b, N, st, nt0, mk0⟩ ((grO gm gg n l z ++ famZ (nxU l) z) ++ (.own 38 0 1 B n bc (tabV gs n n) :: tabF 4 gs (bhB l) n n)) W' := by
 refine (behind26 n l gm gg z hz hok hW).mono ?_
 rintro v W' ⟨B, bc, gs, hv, h⟩
 refine ⟨B, bc, gs, hv, ?_⟩
 rw [List.append_assoc] at h ⊢
 refine h.fam (fun e he => ?_) (fun e he => ?_) ?_
 ·simp only [grO, List.mem_cons, List.not_mem_nil, or_false] at he
  rcases he with rfl | rfl <;> rfl
 ·rcases List.mem_append.1 he with h1 | h1
  ·simp only [List.mem_singleton] at h1; subst h1; rfl
  ·rcases List.mem_append.1 h1 with h2 | h2
   ·exact tabF_shut _ _ _ _ _ e h2
   ·exact famZ_shut _ _ e h2
 ·rw [← List.append_assoc]; exact List.perm_append_comm
end Go.Proofs.Ytbkpiljencaoeaa
