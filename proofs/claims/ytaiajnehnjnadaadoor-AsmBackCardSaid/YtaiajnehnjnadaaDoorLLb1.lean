/- asm.Labels; the chapter's first example. -/
import Derived.Test.YtaiajnehnjnadaaDoorLAsW5
import Derived.Test.YtaiajnehnjnadaaDoorLAsCodeL
set_option linter.unusedSimpArgs false
set_option linter.unusedVariables false
set_option linter.unnecessarySimpa false
namespace Go.Proofs.YtaiajnehnjnadaaDoor
open Go Go.Sx Go.Isa Go.Asm
open Nat (reduceAdd reduceLT)
set_option maxRecDepth 100000
def alT:B:=[108,111,111,112,58,10,32,108,111,97,100,32,49,32,48,32,56,10,32,101,113,32,49,32,48,32,108,111,111,112,32,59,32,97,103,97,105,110,10,104,97,108,116]
theorem alT_is:asmL alT=([⟨11,1,0,0,8⟩,⟨14,1,0,0,0⟩,⟨1,0,0,0,0⟩],[([108,111,111,112],0)],0):=by kernel_rfl
theorem alive10 (w:World) (hG:ShAt w) (hT:TabAt w) (hLb:LibAt w):CallsV Tryd.prog 10 [] w fun v w'=>v=.bool true∧Fresh w w':=by
 refine zj08 (keep:=K10) (nt:=34) (svs:=[]) Tryd.func10 x10 n10 (by simp) (by simp[IsL]) fun R hR=>?_
 (refine Y_go 600 ?_; dsimp only[go_sem,Nat.reduceBEq])
 refine zj13 (vs:=[.string ⟨⟨alT⟩⟩]) rfl (R:=fun W v W'=>∃ (A:Option Addr) (c:Nat),v=.tuple #[.slice A 3 c,.int .i64 0,.int .i64 0]∧World.ownsB W' W.heap.size 43 5 (.slice A 3 c) 3 (cellsI [⟨11,1,0,0,8⟩,⟨14,1,0,0,0⟩,⟨1,0,0,0,0⟩])∧Fresh W W') (fun W hW=>(zj4i alT W (by decide) (hG.keep hW.fresh') (hT.keep hW.fresh') (hLb.keep hW.fresh')).mono fun v w' h=>by rw[alT_is] at h; exact h) fun W v W' hW ⟨A,c,hv,ho,hk⟩=>?_
 obtain⟨A',c',e1,e2,e5,_⟩:=hW.gain ho hk
 injection e1 with e3 _ e4
 subst e3; subst e4; subst hv
 refine⟨.tup [.own 0 0,.val (.int .i64 0),.val (.int .i64 0)],_,?_,e2,e5,?_⟩
 ·simp only[Is,IsL]; exact⟨_,⟨_,_,⟨_,_,_,_,_,_,_,rfl,Nat.le_refl _,⟨_,_,_,rfl⟩,fun _=>rfl⟩,⟨_,_,rfl,⟨_,_,rfl,rfl,rfl⟩,rfl⟩,rfl⟩,rfl⟩
 clear e5 e2 hW ho hk
 (refine Y_go 600 ?_; dsimp only[go_sem,Nat.reduceBEq,Int.reduceToNat,Nat.reduceMul,reduceAdd])
 refine⟨fun _=>⟨fun _=>⟨fun _=>⟨⟨by omega,by omega⟩,14,rfl,1,rfl,0,rfl,0,rfl,0,rfl,fun _=>⟨⟨by omega,by omega⟩,1,rfl,zj04 (vs:=[.bool true]) r10 rfl rfl fun W hW=>hR _ _ ⟨rfl,hW.fresh'⟩⟩,fun h=>absurd h (by decide)⟩,fun h=>absurd h (by decide)⟩,fun h=>absurd h (by decide)⟩,fun h=>absurd h (by decide)⟩
end Go.Proofs.YtaiajnehnjnadaaDoor
