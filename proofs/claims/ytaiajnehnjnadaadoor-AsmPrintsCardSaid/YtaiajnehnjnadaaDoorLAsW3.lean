/- The lines of a text, one by one; all labels' names: asm.lines, asm.all. -/
import Derived.Test.YtaiajnehnjnadaaDoorLAsW1
import Derived.Test.YtaiajnehnjnadaaDoorSxGhost
set_option linter.unusedSimpArgs false
set_option linter.unusedVariables false
set_option linter.unnecessarySimpa false
namespace Go.Proofs.YtaiajnehnjnadaaDoor
open Go Go.Sx Go.Isa Go.Asm
open Nat (reduceAdd reduceLT)
set_option maxRecDepth 100000
structure A129 where
 k:Nat
 m:List (Value × Value)
def Holds1 (m:List (Value × Value)) (l:List B):Prop:=StOk m∧∀ nm:B,mget m (.string ⟨⟨nm⟩⟩)=if nm ∈ l then some (.int .i64 1) else none
theorem Holds1.nil:Holds1 [] []:=⟨StOk.nil,fun nm=>by simp[mget]⟩
theorem Holds1.put {m:List (Value × Value)} {l:List B} (h:Holds1 m l) (s:B):Holds1 (mput m (.string ⟨⟨s⟩⟩) (.int .i64 1)) (l++[s]) :=
 ⟨h.1.put _ _,fun nm=>by
  rw[sget_sput h.1,h.2 nm]
  by_cases e:nm=s
  ·subst e; simp
  ·have e':¬ (⟨⟨nm⟩⟩:ByteArray)=⟨⟨s⟩⟩:=fun h=>e (by rw[ba_inj] at h; exact h)
   rw[if_neg e']; simp[e]⟩
end Go.Proofs.YtaiajnehnjnadaaDoor
