/- AsmReads: the statement, walked. -/
import Derived.Test.YtaiajnehnjnadaaGreatDoorMRf5
import Derived.Test.YtaiajnehnjnadaaGreatDoorMLb1
import Derived.Test.YtaiajnehnjnadaaGreatDoorMSame
set_option linter.unusedSimpArgs false
set_option linter.unusedVariables false
set_option linter.unnecessarySimpa false
namespace Go.Proofs.YtaiajnehnjnadaaGreatDoor
open Go Go.Sx Go.Isa Go.Asm
set_option maxRecDepth 100000
theorem asm_len (t:B):(asmL t).1.length≤1024:=by
 have h:=zj2p (linesL t) [] [] LbOk.nil (by simp)
 unfold asmL
 simp only
 split
 ·simpa [outL] using h.2
 ·exact Nat.zero_le _
theorem law3 (t:B) (w:World) (hG:ShAt w) (hT:TabAt w) (hLb:LibAt w):CallsV Tryz.prog 3 [.string ⟨⟨t⟩⟩] w fun v w'=>Fresh w w'∧v=.bool true:=by
 refine zj05 (keep:=K3) (nt:=97) (svs:=[.val (.string ⟨⟨t⟩⟩)]) Tryz.func3 x3 n3 (by simp) (by simp[IsL,Is]) fun R hR=>?_
 (refine Y_go 600 ?_; dsimp only[go_sem,Nat.reduceAdd,Nat.reduceBEq])
 have hsz:(⟨⟨t⟩⟩:ByteArray).size=t.length:=zj02 t
 have hsz2:(⟨t⟩:Array UInt8).size=t.length:=rfl
 refine⟨fun h=>zj03 (vs:=[.bool true]) r3 rfl rfl fun W hW=>hR _ _ ⟨hW.fresh',rfl⟩,fun h=>?_⟩
 have ht:t.length≤4000:=by have:=of_decide_eq_false h; omega
 clear h
 have ha1:=fun W (hW:Fresh w W)=>assemble66 t W (by omega) (hG.keep hW) (hT.keep hW) (hLb.keep hW)
 have ha2:=fun W (hW:Fresh w W)=>labels12 t W (by omega) (hG.keep hW) (hT.keep hW) (hLb.keep hW)
 have ha3:=fun W=>assemble6 t W (by omega)
 have hol:=asm_len t
 unfold asmR at ha3
 generalize asmL t=res at ha1 ha2 ha3 hol
 obtain⟨out,lb,n⟩:=res
 simp only at ha1 ha2 ha3 hol
 refine zj1r (vs:=[.string ⟨⟨t⟩⟩]) rfl (R:=fun W v W'=>∃ (A:Option Addr) (c:Nat),v=.tuple #[.slice A out.length c,.int .i64 (n:Nat),.int .i64 (asmE n)]∧World.ownsB W' W.heap.size 43 5 (.slice A out.length c) out.length (cellsI out)∧Fresh W W') (fun W hW=>ha1 W hW.fresh') (fun _ _ _ h=>by obtain⟨_,_,_,_,h⟩:=h; exact h) fun W v W' hW hr ov=>?_
 obtain⟨A1,c1,rfl,ho1,hf⟩:=hr
 have hr1:RowAt W' A1 (cellsI out):=.of_own ho1 rfl
 have hw1:Fresh w W':=Fresh.tr hW.fresh' hf
 refine⟨.tup [.val (.slice A1 out.length c1),.val (.int .i64 (n:Int)),.val (.int .i64 (asmE n))],by simp[Is,IsL],?_⟩
 have hfp:fps ([]:List SO)=[]:=rfl
 rw[hfp]
 clear ov ho1 hf hW
 (refine Y_go 600 ?_; dsimp only[go_sem,Nat.reduceBEq])
 refine zj1r (vs:=[.string ⟨⟨t⟩⟩]) rfl (R:=fun W v W'=>∃ (A:Option Addr) (c:Nat),v=.tuple #[.slice A lb.length c,.int .i64 (n:Nat),.int .i64 (asmE n)]∧World.ownsB W' W.heap.size 34 2 (.slice A lb.length c) lb.length (lbV lb)∧Fresh W W') (fun W2 hW=>ha2 W2 (Fresh.tr hw1 hW.fresh')) (fun _ _ _ h=>by obtain⟨_,_,_,_,h⟩:=h; exact h) fun W2 v W3 hW hr ov=>?_
 obtain⟨A2,c2,rfl,ho2,hf⟩:=hr
 have hr2:RowAt W3 A2 (lbV lb):=.of_own ho2 rfl
 have hw2:Fresh w W3:=Fresh.tr hw1 (Fresh.tr hW.fresh' hf)
 have hr1:RowAt W3 A1 (cellsI out):=hr1.keep (Fresh.tr hW.fresh' hf)
 refine⟨.tup [.val (.slice A2 lb.length c2),.val (.int .i64 (n:Int)),.val (.int .i64 (asmE n))],by simp[Is,IsL],?_⟩
 have hfp:fps ([]:List SO)=[]:=rfl
 rw[hfp]
 clear ov ho2 hf hW hw1
 (refine Y_go 600 ?_; dsimp only[go_sem,Nat.reduceBEq])
 refine zj1r (vs:=[.string ⟨⟨t⟩⟩]) rfl (R:=fun W v W'=>∃ (A:Option Addr) (c:Nat) (A':Option Addr) (c':Nat),v=.tuple #[.slice A out.length c,.slice A' lb.length c',.int .i64 (n:Nat),.int .i64 (asmE n)]∧World.ownsB W' W.heap.size 43 5 (.slice A out.length c) out.length (cellsI out)∧World.ownsB W' W.heap.size 35 2 (.slice A' lb.length c') lb.length (lbV lb)∧Fresh W W') (fun W hW=>ha3 W) (fun _ _ _ h=>by obtain⟨_,_,_,_,_,_,_,h⟩:=h; exact h) fun W4 v W5 hW hr ov=>?_
 obtain⟨A3,c3,A4,c4,rfl,ho3,ho4,hf⟩:=hr
 have hr3:RowAt W5 A3 (cellsI out):=.of_own ho3 rfl
 have hr4:RowAt W5 A4 (lbV lb):=.of_own ho4 rfl
 have hw3:Fresh w W5:=Fresh.tr hw2 (Fresh.tr hW.fresh' hf)
 have hr1:RowAt W5 A1 (cellsI out):=hr1.keep (Fresh.tr hW.fresh' hf)
 have hr2:RowAt W5 A2 (lbV lb):=hr2.keep (Fresh.tr hW.fresh' hf)
 have hml:=ownsB_max ho4
 refine⟨.tup [.val (.slice A3 out.length c3),.val (.slice A4 lb.length c4),.val (.int .i64 (n:Int)),.val (.int .i64 (asmE n))],by simp[Is,IsL],?_⟩
 have hfp:fps ([]:List SO)=[]:=rfl
 rw[hfp]
 have back:∀ {H:List SO} {W:World},HeapOk ⟨W5,W5.heap.size,[],97,[]⟩ H W→Fresh w W:=fun h=>Fresh.tr hw3 h.fresh'
 clear ov ho3 ho4 hf hW hw2
 (refine Y_go 600 ?_; dsimp only[go_sem,Nat.reduceBEq])
 refine⟨fun h=>absurd h (by simp),fun _=>⟨fun h=>absurd h (by simp),fun _=>⟨fun h=>absurd h (by simp),fun _=>⟨fun h=>absurd h (by simp),fun _=>?_⟩⟩⟩⟩
 refine zj00 (vs:=[.slice A1 out.length c1,.slice A3 out.length c3]) (R:=fun v=>v=.bool (decide (out=out))) rfl (fun W hW=>(same9 A1 A3 c1 c3 out out W (hr1.keep hW.fresh') (hr3.keep hW.fresh') (by omega)).mono fun v w' h=>⟨h.2,h.1⟩) fun v hv=>⟨.bt,by rw[hv]; simp[Is],?_⟩
 (refine Y_go 600 ?_; dsimp only[go_sem,Nat.reduceBEq])
 refine⟨fun h=>absurd h (by simp),fun _=>?_⟩
 refine zj09 (α:=Nat) (fun i=>i≤lb.length) (fun _=>⟨W5,W5.heap.size,[],97,[]⟩) (fun i=>{ F:=[(6,.val (.slice A2 lb.length c2)),(10,.val (.slice A4 lb.length c4)),(13,.val (.int .i64 (i:Int)))],H:=[] }) (fun i=>lb.length - i) (fun _=>rfl) ?start ?round
 case start =>
  intro a W rep
  exact⟨0,Nat.zero_le _,rep.lq⟩
 case round =>
  intro i hi I again
  (refine Y_go 600 ?_; dsimp only[go_sem,Nat.reduceBEq])
  simp only[maxLen] at hml
  refine⟨fun hlt=>?_,fun _=>zj03 (vs:=[.bool true]) r3 rfl rfl fun W hW=>hR _ _ ⟨back hW,rfl⟩⟩
  have hlt:i < lb.length:=by have:=of_decide_eq_true hlt; omega
  have hi1:((i:Nat):Int).toNat=i:=by omega
  have cl2:∀ k v,k < 2→(lbC lb[i])[k]? = some v→CellAt ⟨W5,W5.heap.size,[],97,[]⟩ A2 (i*2+k) v:=fun k v hk hv=>hr2.cell (by rw[lb_get hlt hk]; exact hv)
  have cl4:∀ k v,k < 2→(lbC lb[i])[k]? = some v→CellAt ⟨W5,W5.heap.size,[],97,[]⟩ A4 (i*2+k) v:=fun k v hk hv=>hr4.cell (by rw[lb_get hlt hk]; exact hv)
  have s2:A2.isSome=true:=hr2.isSome (j:=i*2) (by rw[lb_len]; omega)
  have s4:A4.isSome=true:=hr4.isSome (j:=i*2) (by rw[lb_len]; omega)
  generalize lb[i]=p at cl2 cl4
  rw[hi1]
  refine⟨⟨by omega,by omega,s2⟩,s2,_,cl2 0 _ (by omega) rfl,⟨by omega,by omega,s4⟩,s4,_,cl4 0 _ (by omega) rfl,fun h=>?_,fun _=>⟨⟨by omega,by omega,s2⟩,s2,_,cl2 1 _ (by omega) rfl,⟨by omega,by omega,s4⟩,s4,_,cl4 1 _ (by omega) rfl,fun h=>absurd h (by simp),fun _=>⟨((i+1:Nat):Int),ArOk.to (by omega) (by omega) (by omega),zj01 fun a W rep=>again (i+1) hlt (by omega) a W (rep.lq)⟩⟩⟩
  have h:(!decide (p.1=p.1))=true:=(strNeq p.1 p.1).symm.trans h
  simp at h
end Go.Proofs.YtaiajnehnjnadaaGreatDoor
