/- shuntref10.Same. -/
import Derived.Test.YtaiajnehnjnadaaGreatDoorMAsW5
import Derived.Test.YtaiajnehnjnadaaGreatDoorMLwCode
set_option linter.unusedSimpArgs false
set_option linter.unusedVariables false
set_option linter.unnecessarySimpa false
namespace Go.Proofs.YtaiajnehnjnadaaGreatDoor
open Go Go.Sx Go.Isa Go.Asm
set_option maxRecDepth 100000
theorem cellI {w:World} {A:Option Addr} {l:List In} {nt i:Nat} (h:RowAt w A (cellsI l)) (hi:i < l.length) {k:Nat} {v:Value} (hk:(l[i]).cells[k]? = some v):CellAt ⟨w,w.heap.size,[],nt,[]⟩ A (i*5+k) v :=
 h.cell (by rw[cellsI_get l hi (List.getElem?_eq_some_iff.1 hk).1]; exact hk)
theorem someI {w:World} {A:Option Addr} {l:List In} {i:Nat} (h:RowAt w A (cellsI l)) (hi:i < l.length):A.isSome=true:=h.isSome (j:=i*5) (by rw[zj48]; omega)
theorem same9 (A B : Option Addr) (c d : Nat) (l m : List In) (w : World) (hA : RowAt w A (cellsI l)) (hB : RowAt w B (cellsI m)) (hl : l.length ≤ 2000000)
   : CallsV Tryz.prog 7 [.slice A l.length c,.slice B m.length d] w fun v w'=>Fresh w w'∧v=.bool (decide (l=m)):=by
 refine zj05 (keep:=K7) (nt:=26) (svs:=[.val (.slice A l.length c),.val (.slice B m.length d)]) Tryz.func7 x7 n7 (by simp) (by simp[IsL,Is]) fun R hR=>?_
 have no:l ≠ m→∀ s,denAll s.H s.F [4]=some [.bool false]→RetG (cxOf Tryz.prog Tryz.f7 K7 T7 R) ⟨w,w.heap.size,[],26,[]⟩ s:=fun hk s hs =>
  zj03 r7 rfl hs fun W hW=>hR _ _ ⟨hW.fresh',by simp[hk,tupOf]⟩
 (refine Y_go 600 ?_; dsimp only[go_sem,Nat.reduceAdd,Nat.reduceBEq])
 refine⟨fun h=>no (fun e=>by simp[e] at h) _ rfl,fun h=>?_⟩
 have hlm : l.length = m.length := by have : (l.length : Int) = m.length := by simpa using h
                                      omega
 refine zj09 (α:=Nat) (fun i=>i≤l.length∧l.take i=m.take i) (fun _=>⟨w,w.heap.size,[],26,[]⟩)
   (fun i=>{ F:=[(0,.val (.slice A l.length c)),(1,.val (.slice B m.length d)),(5,.val (.int .i64 i))],H:=[] }) (fun i=>l.length - i) (fun _=>rfl) ?start ?round
 case start =>
  intro a W rep
  refine⟨0,⟨Nat.zero_le _,by simp⟩,rep.le ?_ ?_⟩ <;> (simp only[go_sem,lk,Nat.reduceBEq,Nat.reduceLT,Nat.reduceAdd] <;> try simp)
 case round =>
  rintro i ⟨hi,ht⟩ I hI
  (refine Y_go 600 ?_; dsimp only[go_sem,Nat.reduceBEq])
  refine⟨fun hlt=>?_,fun hge=>?_⟩
  ·have hlt:i < l.length:=by have:=of_decide_eq_true hlt; omega
   have hlt':i < m.length:=by omega
   refine⟨⟨by omega,by omega,someI hA hlt⟩,_,cellI hA hlt (k:=0) rfl,_,cellI hA hlt (k:=1) rfl,_,cellI hA hlt (k:=2) rfl,_,cellI hA hlt (k:=3) rfl,_,cellI hA hlt (k:=4) rfl,
    ⟨by omega,by omega,someI hB hlt'⟩,_,cellI hB hlt' (k:=0) rfl,_,cellI hB hlt' (k:=1) rfl,_,cellI hB hlt' (k:=2) rfl,_,cellI hB hlt' (k:=3) rfl,_,cellI hB hlt' (k:=4) rfl,?_⟩
   have hel:(l[i].op=m[i].op∧l[i].a=m[i].a∧l[i].b=m[i].b∧l[i].c=m[i].c∧l[i].imm=m[i].imm) ↔ l[i]=m[i]:=by
    constructor
    ·rintro ⟨h1,h2,h3,h4,h5⟩
     have:∀ x y:In,x.op=y.op→x.a=y.a→x.b=y.b→x.c=y.c→x.imm=y.imm→x=y:=by
      rintro ⟨⟩ ⟨⟩ h1 h2 h3 h4 h5; simp at h1 h2 h3 h4 h5; simp[h1,h2,h3,h4,h5]
     exact this _ _ h1 h2 h3 h4 h5
    ·intro h; rw[h]; simp
   refine⟨fun h=>no (fun e=>?_) _ rfl,fun h=>⟨_,.add64 (by omega) (by omega),zj01 fun a W rep=>hI (i+1) ⟨by omega,?_⟩ (by omega) a W (rep.le ?_ ?_)⟩⟩
   ·subst e; simp at h
   ·rw[take_succ l hlt,take_succ m hlt',ht,hel.1 (by simpa using h)]
   ·(simp only[go_sem,lk,Nat.reduceBEq,Nat.reduceLT,Nat.reduceAdd] <;> try simp)
   ·(simp only[go_sem,lk,Nat.reduceBEq,Nat.reduceLT,Nat.reduceAdd] <;> try simp)
  ·have hil:i=l.length:=by have:=of_decide_eq_false hge; omega
   subst hil
   have:l=m:=by rw[List.take_length,hlm,List.take_length] at ht; exact ht
   exact zj03 (vs:=[.bool true]) r7 rfl rfl fun W hW=>hR _ _ ⟨hW.fresh',by simp[this,tupOf]⟩
end Go.Proofs.YtaiajnehnjnadaaGreatDoor
