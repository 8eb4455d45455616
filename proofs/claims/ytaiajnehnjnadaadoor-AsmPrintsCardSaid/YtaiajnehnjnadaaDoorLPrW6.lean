/- AsmPrints: the statement, walked. -/
import Derived.Test.YtaiajnehnjnadaaDoorLPrW3
import Derived.Test.YtaiajnehnjnadaaDoorLPrW4
import Derived.Test.YtaiajnehnjnadaaDoorLSame
set_option linter.unusedSimpArgs false
set_option linter.unusedVariables false
set_option linter.unnecessarySimpa false
namespace Go.Proofs.YtaiajnehnjnadaaDoor
open Go Go.Sx Go.Isa Go.Asm
set_option maxRecDepth 100000
theorem oneI (l:List In):∀ u ∈ cellsI l,u.oneCell'=true:=by
 intro u hu
 simp only[cellsI,In.cells,List.mem_flatMap,List.mem_cons,List.not_mem_nil,or_false] at hu
 obtain⟨x,_,rfl | rfl | rfl | rfl | rfl⟩:=hu <;> rfl
theorem law3 (l:List In) (A:Option Addr) (c:Nat) (w:World) (hx:∀ x ∈ l,in64 x) (hA:RowAt w A (cellsI l)) (hG:ShAt w) (hT:TabAt w) (hl:l.length*40≤140737488355328) :
  CallsV Tryd.prog 3 [.slice A l.length c] w fun v w'=>Fresh w w'∧v=.bool true:=by
 refine zj09 (keep:=K3) (nt:=48) (svs:=[.val (.slice A l.length c)]) Tryd.func3 x3 n3 (by simp) (by simp[IsL,Is]) fun R hR=>?_
 (refine Y_go 600 ?_; dsimp only[go_sem,Nat.reduceAdd,Nat.reduceBEq,Nat.reduceMul])
 intro g
 have hrd:=hA.rd (nt:=48) (oneI l)
 rw[zj0w] at hrd
 refine⟨_,hrd,⟨by simp only[maxLen]; omega,by omega⟩,fun A1 c1=>?_⟩
 rw[Nat.zero_add]
 by_cases hbig:1024 < l.length
 ·refine zj01 (vs:=[.slice A1 l.length c1]) rfl (fun W hW=>print7 l A1 c1 W hx (hW.rowAt (i:=1) rfl) (hG.keep hW.fresh') (hT.keep hW.fresh')) fun v hv=>⟨.tup [.val (.string ⟨⟨[]⟩⟩),.val (.int .i64 2)],by rw[hv,if_pos hbig]; simp[Is,IsL],?_⟩
  (refine Y_go 600 ?_; dsimp only[go_sem,Nat.reduceBEq])
  refine⟨fun _=>⟨fun _=>?_,fun h=>absurd h (by simp[strB])⟩,fun h=>absurd (of_decide_eq_false h) (by omega)⟩
  exact zj03 r3 rfl rfl fun W hW=>hR _ _ ⟨hW.fresh',by simp[tupOf,strB]⟩
 ·refine zj01 (vs:=[.slice A1 l.length c1]) rfl (fun W hW=>print7 l A1 c1 W hx (hW.rowAt (i:=1) rfl) (hG.keep hW.fresh') (hT.keep hW.fresh')) fun v hv=>⟨.tup [.val (.string ⟨⟨printL l⟩⟩),.val (.int .i64 0)],by rw[hv,if_neg hbig]; simp[Is,IsL],?_⟩
  (refine Y_go 600 ?_; dsimp only[go_sem,Nat.reduceBEq])
  refine⟨fun h=>absurd (of_decide_eq_true h) (by omega),fun _=>⟨fun h=>?_,fun h=>?_⟩⟩
  ·exact zj03 r3 rfl rfl fun W hW=>hR _ _ ⟨hW.fresh',by simp[tupOf,strB]⟩
  ·have h200:l.length≤200:=by have:=of_decide_eq_false h; omega
   refine zj01 (vs:=[.slice A l.length c]) rfl (fun W hW=>print8 l A c W hx (hA.keep hW.fresh') (by omega)) fun v hv=>⟨.tup [.val (.string ⟨⟨printL l⟩⟩),.val (.int .i64 0)],by rw[hv]; simp[Is,IsL],?_⟩
   (refine Y_go 600 ?_; dsimp only[go_sem,Nat.reduceBEq])
   refine⟨fun _=>⟨fun _=>?_,fun h=>absurd h (by decide)⟩,fun h=>absurd h (by simp[strB])⟩
   refine zj01 (vs:=[.slice A1 l.length c1,.slice A l.length c]) (R:=fun v=>v=.bool (decide (l=l))) rfl (fun W hW=>(same9 A1 A c1 c l l W (hW.rowAt (i:=1) rfl) (hA.keep hW.fresh') (by omega)).mono fun v w' h=>⟨h.2,h.1⟩) fun v hv=>⟨.bt,by rw[hv]; simp[Is],?_⟩
   (refine Y_go 600 ?_; dsimp only[go_sem,Nat.reduceBEq])
   all_goals exact zj03 r3 rfl rfl fun W hW=>hR _ _ ⟨hW.fresh',by simp[tupOf]⟩
end Go.Proofs.YtaiajnehnjnadaaDoor
