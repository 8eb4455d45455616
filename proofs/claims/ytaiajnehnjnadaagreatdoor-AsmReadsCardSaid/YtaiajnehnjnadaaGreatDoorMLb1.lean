/- asm.Labels; the chapter's first example. -/
import Derived.Test.YtaiajnehnjnadaaGreatDoorMAsW5
import Derived.Test.YtaiajnehnjnadaaGreatDoorMLwCode
set_option linter.unusedSimpArgs false
set_option linter.unusedVariables false
set_option linter.unnecessarySimpa false
namespace Go.Proofs.YtaiajnehnjnadaaGreatDoor
open Go Go.Sx Go.Isa Go.Asm
set_option maxRecDepth 100000
theorem labels12 (t:B) (w:World) (ht:t.length≤400000) (hG:ShAt w) (hT:TabAt w) (hLb:LibAt w) :
  CallsV Tryz.prog 5 [.string ⟨⟨t⟩⟩] w fun v w'=>∃ (A:Option Addr) (c:Nat),v=.tuple #[.slice A (asmL t).2.1.length c,.int .i64 ((asmL t).2.2:Nat),.int .i64 (asmE (asmL t).2.2)]∧World.ownsB w' w.heap.size 34 2 (.slice A (asmL t).2.1.length c) (asmL t).2.1.length (lbV (asmL t).2.1)∧Fresh w w':=by
 refine zj05 (keep:=K5) (nt:=23) (svs:=[.val (.string ⟨⟨t⟩⟩)]) Tryz.func5 x5 n5 (by simp) (by simp[IsL,Is]) fun R hR=>?_
 (refine Y_go 600 ?_; dsimp only[go_sem,Nat.reduceAdd,Nat.reduceBEq])
 refine zj1r (vs:=[.string ⟨⟨t⟩⟩]) rfl (R:=fun W v W'=>readR (readL (linesL t) [] []) W W' v) (fun W hW=>read96 t W ht (hG.keep hW.fresh') (hT.keep hW.fresh') (hLb.keep hW.fresh')) (fun _ _ _ h=>by obtain⟨_,_,_,_,_,_,_,h⟩:=h; exact h) fun W v W' hW hr ov=>?_
 have hok:=zj2p (linesL t) [] [] LbOk.nil (by simp)
 have has:asmL t=(if wrongL (allN (linesL t)) (readL (linesL t) [] []).1 (readL (linesL t) [] []).2.2=0 then (outL (readL (linesL t) [] []).2.1 (readL (linesL t) [] []).1,(readL (linesL t) [] []).2.1,0) else ([],[],wrongL (allN (linesL t)) (readL (linesL t) [] []).1 (readL (linesL t) [] []).2.2)):=rfl
 generalize asmL t=res at has hR ⊢
 generalize readL (linesL t) [] []=r at hr hok has
 obtain⟨l,lb,bad⟩:=r
 simp only at hok has
 obtain⟨A1,c1,A2,c2,rfl,ho1,ho2,hf⟩:=hr
 simp only at ho1 ho2
 have hG':ShAt W':=(hG.keep hW.fresh').keep hf
 have hT':TabAt W':=(hT.keep hW.fresh').keep hf
 have hL':LibAt W':=(hLb.keep hW.fresh').keep hf
 have hr1:RowAt W' A1 (lnV l):=.of_own ho1 rfl
 have hw1:Fresh w W':=Fresh.tr hW.fresh' hf
 have hlow:=ownsB_low ho2 hW.fresh'.size
 refine⟨.tup [.val (.slice A1 l.length c1),.val (.slice A2 lb.length c2),.val (.int .i64 (bad:Int))],by simp[Is,IsL],?_⟩
 have hfp:fps ([]:List SO)=[]:=rfl
 rw[hfp]
 have back:∀ {H:List SO} {W2:World},HeapOk ⟨W',W'.heap.size,[],23,[]⟩ H W2→Fresh w W2:=fun h=>Fresh.tr hw1 h.fresh'
 clear ov
 (refine Y_go 600 ?_; dsimp only[go_sem,Nat.reduceBEq])
 have hl1:l.length≤1024:=hok.2
 refine zj00 (vs:=[.string ⟨⟨t⟩⟩,.slice A1 l.length c1,.int .i64 (bad:Int)]) rfl (fun W2 hW2=>wrong97 t l A1 c1 bad W2 ht (hr1.keep hW2.fresh') hl1 (hG'.keep hW2.fresh') (hT'.keep hW2.fresh') (hL'.keep hW2.fresh')) fun v hv=>⟨.val (.int .i64 ((wrongL (allN (linesL t)) l bad:Nat):Int)),by rw[hv]; simp[Is],?_⟩
 generalize wrongL (allN (linesL t)) l bad=n at has
 (refine Y_go 600 ?_; dsimp only[go_sem,Nat.reduceBEq])
 refine⟨fun h=>?_,fun h=>?_⟩
 ·have h:n ≠ 0:=by have:=of_decide_eq_true h; omega
  rw[if_neg h] at has
  subst has
  refine zj03 (vs:=[_,_,_]) r5 rfl rfl fun W2 hW2=>hR _ _ ⟨none,0,?_,zj17 _ _ _ _,back hW2⟩
  simp[asmE,h,tupOf]
 have h:n=0:=by have:=of_decide_eq_false h; omega
 rw[if_pos h] at has
 subst h; subst has
 exact zj03 (vs:=[_,_,_]) r5 rfl rfl fun W2 hW2=>hR _ _ ⟨A2,c2,rfl,ownsB_keep hlow hW2.fresh',back hW2⟩
end Go.Proofs.YtaiajnehnjnadaaGreatDoor
