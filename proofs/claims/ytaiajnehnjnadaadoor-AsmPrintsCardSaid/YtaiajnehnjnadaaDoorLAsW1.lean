/- asm's small questions: what goes, what is a word of isa's, what is a name. -/
import Derived.Test.YtaiajnehnjnadaaDoorLAIlLaw4
import Derived.Test.YtaiajnehnjnadaaDoorLAsCode
set_option linter.unusedSimpArgs false
set_option linter.unusedVariables false
set_option linter.unnecessarySimpa false
namespace Go.Proofs.YtaiajnehnjnadaaDoor
open Go Go.Sx Go.Isa Go.Asm
open Nat (reduceAdd reduceLT)
set_option maxRecDepth 100000
theorem goes155 (op:Int) (w:World):CallsV Tryd.prog 25 [.int .i64 op] w fun v w'=>v=.bool (goOp op)∧Fresh w w':=by
 refine zj09 (keep:=K25) (nt:=17) (svs:=[.val (.int .i64 op)]) Tryd.func25 x25 n25 (by simp) (by simp[IsL,Is]) fun R hR=>?_
 (refine Y_go 600 ?_; dsimp only[go_sem,reduceAdd,Nat.reduceBEq])
 have fin:∀ F H b,denAll H F [2]=some [.bool b]→b=goOp op→RetG (cxOf Tryd.prog Tryd.f25 K25 T25 R) ⟨w,w.heap.size,[],17,[]⟩ { F:=F,H:=H }:=fun F H b hd hb =>
  zj03 (vs:=[.bool b]) r25 rfl hd fun W hW=>hR _ _ ⟨by rw[hb]; rfl,hW.fresh'⟩
 have key:∀ b,(b=true ↔ 13≤op∧op≤16)→b=goOp op:=fun b hb=>by
  rw[Bool.eq_iff_iff,hb]; unfold goOp; simp
 refine⟨fun h1=>fin _ _ _ rfl (key _ ?_),fun h1=>⟨fun h2=>fin _ _ _ rfl (key _ ?_),fun h2=>⟨fun h3=>fin _ _ _ rfl (key _ ?_),fun h3=>fin _ _ _ rfl (key _ ?_)⟩⟩⟩
 ·have h1:op=13:=by simpa using h1
  simp; omega
 ·have h2:op=14:=by simpa using h2
  simp; omega
 ·have h3:op=15:=by simpa using h3
  simp; omega
 ·have h1:op ≠ 13:=by simpa using h1
  have h2:op ≠ 14:=by simpa using h2
  have h3:op ≠ 15:=by simpa using h3
  simp; omega
theorem ba_get (s:B) (i:Nat):(⟨⟨s⟩⟩:ByteArray)[i]? = s[i]? := by
 by_cases h:i < s.length
 ·rw[List.getElem?_eq_getElem h]
  exact getElem?_pos (⟨⟨s⟩⟩:ByteArray) i h
 ·rw[List.getElem?_eq_none (by omega)]
  exact getElem?_neg (⟨⟨s⟩⟩:ByteArray) i h
def oneV (o:Option (In × B)):Value:=match o with
 | some (x,nm)=>.tuple #[In.val x,.string ⟨⟨nm⟩⟩,.bool true]
 | none=>.tuple #[In.val zeroI,.string ⟨⟨[]⟩⟩,.bool false]
end Go.Proofs.YtaiajnehnjnadaaDoor
