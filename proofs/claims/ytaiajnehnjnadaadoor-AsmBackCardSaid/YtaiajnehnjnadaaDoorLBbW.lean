/- AsmBack: the statement, walked. -/
import Derived.Test.YtaiajnehnjnadaaDoorLPrW3
import Derived.Test.YtaiajnehnjnadaaDoorLSame
import Derived.Test.YtaiajnehnjnadaaDoorLLb1
import Derived.Test.YtaiajnehnjnadaaDoorPrBack
import Derived.Test.YtaiajnehnjnadaaDoorLBbCode
set_option linter.unusedSimpArgs false
set_option linter.unusedVariables false
set_option linter.unnecessarySimpa false
namespace Go.Proofs.YtaiajnehnjnadaaDoor
open Go Go.Sx Go.Isa Go.Asm
set_option maxRecDepth 100000
theorem print_len {l:List In} (hx:∀ x ∈ l,in64 x) (hl:l.length≤1024):(printL l).length≤300000:=by
 unfold printL
 have h1:=prL_len hx l.length (by omega)
 have h2:=zj57 l l.length (by omega)
 rw[List.length_append]; omega
theorem law6 (l:List In) (A:Option Addr) (c:Nat) (w:World) (hx:∀ x ∈ l,in64 x) (hA:RowAt w A (cellsI l)) (hG:ShAt w) (hT:TabAt w) (hLb:LibAt w) :
  CallsV Tryd.prog 6 [.slice A l.length c] w fun v w'=>Fresh w w'∧v=.bool true:=by
 refine zj08 (keep:=K6) (nt:=47) (svs:=[.val (.slice A l.length c)]) Tryd.func6 x6 n6 (by simp) (by simp[IsL,Is]) fun R hR=>?_
 (refine Y_go 600 ?_; dsimp only[go_sem,Nat.reduceAdd,Nat.reduceBEq])
 refine zj00 (vs:=[]) rfl (fun W hW=>alive10 W (hG.keep hW.fresh') (hT.keep hW.fresh') (hLb.keep hW.fresh')) fun v hv=>⟨.bt,by rw[hv]; simp[Is],?_⟩
 (refine Y_go 600 ?_; dsimp only[go_sem,Nat.reduceBEq])
 by_cases hbig:1024 < l.length
 ·refine zj00 (vs:=[.slice A l.length c]) rfl (fun W hW=>print7 l A c W hx (hA.keep hW.fresh') (hG.keep hW.fresh') (hT.keep hW.fresh')) fun v hv=>⟨.tup [.val (.string ⟨⟨[]⟩⟩),.val (.int .i64 2)],by rw[hv,if_pos hbig]; simp[Is,IsL],?_⟩
  (refine Y_go 600 ?_; dsimp only[go_sem,Nat.reduceBEq])
  refine⟨fun _=>?_,fun h=>absurd h (by decide)⟩
  exact zj04 r6 rfl rfl fun W hW=>hR _ _ ⟨hW.fresh',by simp[tupOf]; omega⟩
 ·refine zj00 (vs:=[.slice A l.length c]) rfl (fun W hW=>print7 l A c W hx (hA.keep hW.fresh') (hG.keep hW.fresh') (hT.keep hW.fresh')) fun v hv=>⟨.tup [.val (.string ⟨⟨printL l⟩⟩),.val (.int .i64 0)],by rw[hv,if_neg hbig]; simp[Is,IsL],?_⟩
  (refine Y_go 600 ?_; dsimp only[go_sem,Nat.reduceBEq])
  refine⟨fun h=>absurd h (by decide),fun _=>?_⟩
  have hl:l.length≤1024:=by omega
  have hlen:=print_len hx hl
  obtain⟨q1,q2⟩:=asm_print hx hl
  have hasm:=fun W (hW:Fresh w W)=>zj4i (printL l) W (by omega) (hG.keep hW) (hT.keep hW) (hLb.keep hW)
  generalize printL l=t at q1 q2 hasm
  generalize asmL t=res at q1 q2 hasm
  obtain⟨out,lb,n⟩:=res
  simp only at q1 q2 hasm
  subst q1; subst q2
  refine zj13 (vs:=[.string ⟨⟨t⟩⟩]) rfl (R:=fun W v W'=>∃ (A:Option Addr) (c:Nat),v=.tuple #[.slice A out.length c,.int .i64 0,.int .i64 0]∧World.ownsB W' W.heap.size 43 5 (.slice A out.length c) out.length (cellsI out)∧Fresh W W') (fun W hW=>hasm W hW.fresh') fun W v W' hW ⟨A1,c1,hv,ho,hk⟩=>?_
  obtain⟨A',c',e1,e2,e5,_⟩:=hW.gain ho hk
  injection e1 with e3 _ e4
  subst e3; subst e4; subst hv
  refine⟨.tup [.own 0 0,.val (.int .i64 0),.val (.int .i64 0)],_,?_,e2,e5,?_⟩
  ·simp only[Is,IsL]; exact⟨_,⟨_,_,⟨_,_,_,_,_,_,_,rfl,Nat.le_refl _,⟨_,_,_,rfl⟩,fun _=>rfl⟩,⟨_,_,rfl,⟨_,_,rfl,rfl,rfl⟩,rfl⟩,rfl⟩,rfl⟩
  clear e5 e2 hW ho hk
  (refine Y_go 600 ?_; dsimp only[go_sem,Nat.reduceBEq])
  refine⟨fun _=>⟨fun _=>?_,fun h=>absurd h (by decide)⟩,fun h=>absurd h (by decide)⟩
  refine zj00 (vs:=[.slice A out.length c,.slice A1 out.length c1]) (R:=fun v=>v=.bool (decide (out=out))) rfl (fun W hW=>(same9 A A1 c c1 out out W (hA.keep hW.fresh') (hW.rowAt (i:=0) rfl) (by omega)).mono fun v w' h=>⟨h.2,h.1⟩) fun v hv=>⟨.bt,by rw[hv]; simp[Is],?_⟩
  (refine Y_go 600 ?_; dsimp only[go_sem,Nat.reduceBEq])
  exact zj04 (vs:=[.bool true]) r6 rfl rfl fun W hW=>hR _ _ ⟨hW.fresh',rfl⟩
end Go.Proofs.YtaiajnehnjnadaaDoor
