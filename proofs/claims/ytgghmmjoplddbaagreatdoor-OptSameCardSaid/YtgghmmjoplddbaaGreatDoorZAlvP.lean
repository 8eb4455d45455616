/- opt's first two examples, in plain words. -/
import Derived.KernelRfl
import Derived.Test.YtgghmmjoplddbaaGreatDoorZOpW0
import Derived.Test.YtgghmmjoplddbaaGreatDoorZAsW5
set_option linter.unusedSimpArgs false
set_option linter.unusedVariables false
set_option linter.unnecessarySimpa false
namespace Go.Proofs.YtgghmmjoplddbaaGreatDoor
open Go Go.Sx Go.Isa Go.Lint Go.Asm
theorem trim_all {l:List In} (h:∀ k,k < l.length→∃ b,Go.Lint.Reach l ((k:Int),b)):trimL l=l :=
 zj22 (by rw[zj3m]; exact zj44 _ fun k hk=>zj45.2 (h k hk))
def mA:B:=[115,101,116,32,49,32,50,10,115,101,116,32,50,32,51,10,97,100,100,32,49,32,49,32,50,10,104,97,108,116]
def mB:B:=[115,101,116,32,49,32,50,10,115,101,116,32,50,32,51,10,115,101,116,32,49,32,53,10,104,97,108,116]
def mC:B:=[106,117,109,112,32,50,10,104,97,108,116,10,106,117,109,112,32,51,10,115,101,116,32,49,32,49]
def mD:B:=[115,101,116,32,49,32,49]
def lA:List In:=[⟨2,1,0,0,2⟩,⟨2,2,0,0,3⟩,⟨4,1,1,2,0⟩,⟨1,0,0,0,0⟩]
def lB:List In:=[⟨2,1,0,0,2⟩,⟨2,2,0,0,3⟩,⟨2,1,0,0,5⟩,⟨1,0,0,0,0⟩]
def lC:List In:=[⟨13,0,0,0,2⟩,⟨1,0,0,0,0⟩,⟨13,0,0,0,3⟩,⟨2,1,0,0,1⟩]
def lD:List In:=[⟨2,1,0,0,1⟩]
def lE:List In:=[⟨13,0,0,0,2⟩,⟨1,0,0,0,0⟩,⟨2,1,0,0,1⟩]
def lF:List In:=[⟨13,0,0,0,1⟩,⟨2,1,0,0,1⟩]
theorem asA:asmL mA=(lA,[],0):=by kernel_rfl
theorem asB:asmL mB=(lB,[],0):=by kernel_rfl
theorem asC:asmL mC=(lC,[],0):=by kernel_rfl
theorem asD:asmL mD=(lD,[],0):=by kernel_rfl
theorem bgA:bgL lA=[0]:=by
 unfold bgL
 rw[if_neg (by simp[lA])]
 exact upI_of (by kernel_rfl) (by kernel_rfl)
theorem bgB:bgL lB=[0]:=by
 unfold bgL
 rw[if_neg (by simp[lB])]
 exact upI_of (by kernel_rfl) (by kernel_rfl)
theorem bgC:bgL lC=[0,1,2,3]:=by
 unfold bgL
 rw[if_neg (by simp[lC])]
 exact upI_of (by kernel_rfl) (by kernel_rfl)
theorem bgD:bgL lD=[0]:=by
 unfold bgL
 rw[if_neg (by simp[lD])]
 exact upI_of (by kernel_rfl) (by kernel_rfl)
theorem bgF:bgL lF=[0,1]:=by
 unfold bgL
 rw[if_neg (by simp[lF])]
 exact upI_of (by kernel_rfl) (by kernel_rfl)
def foldB (l:List In) (bs:List Int):List In:=l.mapIdx fun i x=>(foldI x (stA l bs i) i).1
theorem zj6t {l:List In} {bs:List Int} (h:bgL l=bs):foldL l=foldB l bs:=by subst h; rfl
theorem fA:foldL lA=lB:=(zj6t bgA).trans (by kernel_rfl)
theorem fB:foldL lB=lB:=(zj6t bgB).trans (by kernel_rfl)
theorem fC:foldL lC=lC:=(zj6t bgC).trans (by kernel_rfl)
theorem fD:foldL lD=lD:=(zj6t bgD).trans (by kernel_rfl)
theorem fF:foldL lF=lF:=(zj6t bgF).trans (by kernel_rfl)
theorem tB:zj0a lB=lB:=by kernel_rfl
theorem sB:skipL lB=lB:=by kernel_rfl
def lC2:List In:=[⟨13,0,0,0,3⟩,⟨1,0,0,0,0⟩,⟨13,0,0,0,3⟩,⟨2,1,0,0,1⟩]
theorem tC:zj0a lC=lC2:=by kernel_rfl
theorem sC:skipL lC2=lE:=by kernel_rfl
theorem tF:zj0a lF=lF:=by kernel_rfl
theorem sF:skipL lF=lD:=by kernel_rfl
theorem tD:zj0a lD=lD:=by kernel_rfl
theorem sD:skipL lD=lD:=by kernel_rfl
theorem rB0:Go.Lint.Reach lB (0,false):=.start
theorem rB1:Go.Lint.Reach lB (1,false):=.step (0,false) _ _ rB0 rfl (by kernel_rfl) (by decide)
theorem rB2:Go.Lint.Reach lB (2,false):=.step (1,false) _ _ rB1 rfl (by kernel_rfl) (by decide)
theorem rB3:Go.Lint.Reach lB (3,false):=.step (2,false) _ _ rB2 rfl (by kernel_rfl) (by decide)
theorem gB':trimL lB=lB:=trim_all fun k hk=>⟨false,by
 match k,hk with
 | 0,_=>exact rB0
 | 1,_=>exact rB1
 | 2,_=>exact rB2
 | 3,_=>exact rB3⟩
theorem gD:trimL lD=lD:=trim_all fun k hk=>⟨false,by
 match k,hk with
 | 0,_=>exact .start⟩
theorem rE (s:Spot) (h:Go.Lint.Reach lE s):s=(0,false)∨s=(2,false)∨s=(3,false):=by
 induction h with
 | start=>exact .inl rfl
 | step s n x h1 h2 h3 h4 ih =>
  rcases ih with rfl | rfl | rfl
  ·injection h2 with h2; subst h2
   have h4:n ∈ [((2:Int),false)]:=h4
   simp at h4; exact .inr (.inl h4)
  ·injection h2 with h2; subst h2
   have h4:n ∈ [((3:Int),false)]:=h4
   simp at h4; exact .inr (.inr h4)
  ·cases h2
theorem gE:trimL lE=lF:=by
 have h0:neverB lE 0=false:=zj45.2 ⟨false,.start⟩
 have h2:neverB lE 2=false:=zj45.2 ⟨false,.step (0,false) _ _ .start rfl (by kernel_rfl) (by decide)⟩
 have h1:neverB lE 1=true:=by
  cases h:neverB lE 1 with
  | true=>rfl
  | false =>
   obtain⟨b,hb⟩:=zj45.1 h
   rcases rE _ hb with h | h | h <;> simp at h
 have key:∀ g:Nat→Bool,g 0=false→g 1=true→g 2=false→dropP g lE=lF:=by
  intro g h0 h1 h2
  have g1:goK ⟨13,0,0,0,2⟩=1:=by kernel_rfl
  have g2:goK ⟨2,1,0,0,1⟩=0:=by kernel_rfl
  show dropTo g lE 3=lF
  simp[dropTo,lE,lF,adjI,leftN,h0,h1,h2,g1,g2]
 exact key _ h0 h1 h2
theorem oA:optR lA=lB:=by unfold optR; rw[fA,tB,sB,gB']
theorem oB:optR lB=lB:=by unfold optR; rw[fB,tB,sB,gB']
theorem oC:optR lC=lF:=by unfold optR; rw[fC,tC,sC,gE]
theorem oF:optR lF=lD:=by unfold optR; rw[fF,tF,sF,gD]
theorem oD:optR lD=lD:=by unfold optR; rw[fD,tD,sD,gD]
theorem ne1:lB ≠ lA:=by decide
theorem ne2:lF ≠ lC:=by decide
theorem ne3:lD ≠ lF:=by decide
theorem opA:optL lA=lB:=by rw[zj3o (by rw[oA]; exact ne1),oA,zj7n oB]
theorem opC:optL lC=lD:=by rw[zj3o (by rw[oC]; exact ne2),oC,zj3o (by rw[oF]; exact ne3),oF,zj7n oD]
end Go.Proofs.YtgghmmjoplddbaaGreatDoor
namespace Go.Proofs.YtgghmmjoplddbaaGreatDoor
open Go Go.Sx Go.Isa Go.Asm
set_option maxRecDepth 100000
theorem owns_slc {w:World} {N:Nat} {t:TypeId} {sz n:Nat} {v:Value} {xs:List Value} (h:World.ownsB w N t sz v n xs):∃ A c,v=.slice A n c:=by
 obtain⟨_,⟨A,rfl,rfl,_⟩ | ⟨g,b,cap,cur,rfl,_⟩⟩:=h
 ·exact⟨A,0,rfl⟩
 ·exact⟨_,_,rfl⟩
theorem made53 (s t:B) (l m:List In) (w:World) (hs:asmL s=(l,[],0)) (ht:asmL t=(m,[],0)) (hm:optL l=m) (hl:l.length≤1000) (hm0:m ≠ []) (hsl:s.length≤400000) (htl:t.length≤400000) (hG:ShAt w) (hT:TabAt w) (hLb:LibAt w) :
  CallsV Tryz.prog 32 [.string ⟨⟨s⟩⟩,.string ⟨⟨t⟩⟩] w fun v w'=>v=.bool true∧Fresh w w':=by
 refine zj03 (keep:=K32) (nt:=72) (svs:=[.val (.string ⟨⟨s⟩⟩),.val (.string ⟨⟨t⟩⟩)]) Tryz.func32 x32 n32 (by simp) (by simp[IsL,Is]) fun R hR=>?_
 (refine Y_go 600 ?_; dsimp only[go_sem,Nat.reduceAdd,Nat.reduceBEq])
 refine zj1i (vs:=[.string ⟨⟨s⟩⟩]) rfl (R:=fun W v W'=>∃ (A:Option Addr) (c:Nat),v=.tuple #[.slice A l.length c,.int .i64 0,.int .i64 0]∧RowAt W' A (cellsI l)∧Fresh W W') (fun W hW=>(zj6s s W hsl (hG.keep hW.fresh') (hT.keep hW.fresh') (hLb.keep hW.fresh')).mono fun v w' h=>by
  rw[hs] at h; obtain⟨A,c,h1,h2,h3⟩:=h; exact⟨A,c,h1,.of_own h2 rfl,h3⟩) (fun W v W' h=>by obtain⟨_,_,_,_,h⟩:=h; exact h) fun W v W1 hW ⟨A,c,hv,kA,hk⟩ _=>?_
 subst hv
 have hw1:Fresh w W1:=Fresh.tr hW.fresh' hk
 refine⟨.tup [.val (.slice A l.length c),.val (.int .i64 0),.val (.int .i64 0)],by simp[Is,IsL],?_⟩
 rw[show fps ([]:List SO)=[] from rfl]
 (refine Y_go 600 ?_; dsimp only[go_sem,Nat.reduceBEq])
 refine zj1i (vs:=[.string ⟨⟨t⟩⟩]) rfl (R:=fun W v W'=>∃ (A:Option Addr) (c:Nat),v=.tuple #[.slice A m.length c,.int .i64 0,.int .i64 0]∧RowAt W' A (cellsI m)∧Fresh W W') (fun W hW=>(zj6s t W htl (hG.keep (Fresh.tr hw1 hW.fresh')) (hT.keep (Fresh.tr hw1 hW.fresh')) (hLb.keep (Fresh.tr hw1 hW.fresh'))).mono fun v w' h=>by
  rw[ht] at h; obtain⟨A,c,h1,h2,h3⟩:=h; exact⟨A,c,h1,.of_own h2 rfl,h3⟩) (fun W v W' h=>by obtain⟨_,_,_,_,h⟩:=h; exact h) fun W v W2 hW ⟨A2,c2,hv,kA2,hk2⟩ _=>?_
 subst hv
 have hw12:Fresh W1 W2:=Fresh.tr hW.fresh' hk2
 have hw2:Fresh w W2:=Fresh.tr hw1 hw12
 refine⟨.tup [.val (.slice A2 m.length c2),.val (.int .i64 0),.val (.int .i64 0)],by simp[Is,IsL],?_⟩
 rw[show fps ([]:List SO)=[] from rfl]
 (refine Y_go 600 ?_; dsimp only[go_sem,Nat.reduceBEq])
 refine zj1i (vs:=[.slice A l.length c]) rfl (R:=fun W v W'=>∃ (A:Option Addr) (c:Nat),v=.tuple #[.slice A m.length c,.int .i64 0]∧RowAt W' A (cellsI m)∧Fresh W W') (fun W hW=>(zj6q l (by omega) A c W (hG.keep (Fresh.tr hw2 hW.fresh')) (kA.keep (Fresh.tr hw12 hW.fresh'))).mono fun v w' h=>by
  obtain⟨hk,s,hv,hs⟩:=h
  rw[zj2d (by omega)] at hv
  rw[zj25 (by omega),hm] at hs
  obtain⟨A,c,rfl⟩:=owns_slc hs
  exact⟨A,c,hv,.of_own hs rfl,hk⟩) (fun W v W' h=>by obtain⟨_,_,_,_,h⟩:=h; exact h) fun W v W3 hW ⟨A3,c3,hv,kA3,hk3⟩ _=>?_
 subst hv
 have hw23:Fresh W2 W3:=Fresh.tr hW.fresh' hk3
 have hw3:Fresh w W3:=Fresh.tr hw2 hw23
 have kB:RowAt W3 A2 (cellsI m):=kA2.keep hw23
 refine⟨.tup [.val (.slice A3 m.length c3),.val (.int .i64 0)],by simp[Is,IsL],?_⟩
 rw[show fps ([]:List SO)=[] from rfl]
 clear kA kA2
 (refine Y_go 600 ?_; dsimp only[go_sem,Nat.reduceBEq])
 have hml:m.length≤1000:=by rw[← hm]; exact Nat.le_trans (optL_len l) hl
 have no:((0:Int) != 0)=true→False:=fun h=>by simp at h
 have fin:G (cxOf Tryz.prog Tryz.f32 K32 T32 R) ⟨W3,W3.heap.size,[],72,[]⟩ [.code (.loop (.ref 5)),.blk 0,.code (.ref 6)] { F:=[(0,.val (.string ⟨⟨s⟩⟩)),(1,.val (.string ⟨⟨t⟩⟩)),(4,.bf),(5,.val (.slice A l.length c)),(7,.val (.int .i64 0)),(8,.val (.slice A2 m.length c2)),(10,.val (.int .i64 0)),(11,.val (.slice A3 m.length c3)),(12,.val (.int .i64 0)),(56,.bf),(58,.val (.int .i64 m.length)),(59,.val (.int .i64 0))],H:=[] }:=by
  refine zj08 (α:=Nat) (fun i=>i≤m.length) (fun _=>⟨W3,W3.heap.size,[],72,[]⟩) (fun i=>{ F:=[(8,.val (.slice A2 m.length c2)),(11,.val (.slice A3 m.length c3)),(58,.val (.int .i64 m.length)),(59,.val (.int .i64 (i:Int)))],H:=[] }) (fun i=>m.length - i) (fun _=>rfl) ?start ?round
  case start =>
   intro a W rep
   exact⟨0,Nat.zero_le _,rep.lp⟩
  case round =>
   intro i hi I hI
   have hi:i≤m.length:=hi
   (refine Y_go 600 ?_; dsimp only[go_sem,Nat.reduceBEq])
   refine⟨fun hlt=>?_,fun hge=>?_⟩
   ·have hlt:i < m.length:=by have:=of_decide_eq_true hlt; omega
    refine⟨⟨by omega,by omega,someI kB hlt⟩,_,cellI kB hlt (k:=0) rfl,_,cellI kB hlt (k:=1) rfl,_,cellI kB hlt (k:=2) rfl,_,cellI kB hlt (k:=3) rfl,_,cellI kB hlt (k:=4) rfl,
     ⟨by omega,by omega,someI kA3 hlt⟩,_,cellI kA3 hlt (k:=0) rfl,_,cellI kA3 hlt (k:=1) rfl,_,cellI kA3 hlt (k:=2) rfl,_,cellI kA3 hlt (k:=3) rfl,_,cellI kA3 hlt (k:=4) rfl,?_⟩
    refine⟨fun h=>absurd h (by simp),fun h=>⟨_,.add64 (by omega) (by omega),zj02 fun a W rep=>hI (i+1) (by omega) (by omega) a W (rep.lq)⟩⟩
   ·exact zj01 (vs:=[.bool true]) r32 rfl rfl fun W hW=>hR _ _ ⟨rfl,Fresh.tr hw3 hW.fresh'⟩
 refine⟨fun h=>(no h).elim,fun _=>⟨fun h=>(no h).elim,fun _=>⟨fun h=>(no h).elim,fun _=>⟨fun h=>absurd h (by simp),fun _=>⟨fun _=>⟨fun h=>absurd h ?_,fun _=>fin⟩,fun _=>fin⟩⟩⟩⟩⟩
 intro h
 have h:(m.length:Int)=0:=by simpa using h
 exact hm0 (List.length_eq_zero_iff.1 (by omega))
theorem alive25 (w:World) (hG:ShAt w) (hT:TabAt w) (hLb:LibAt w):CallsV Tryz.prog 13 [] w fun v w'=>v=.bool true∧Fresh w w':=by
 refine zj03 (keep:=K13) (nt:=5) (svs:=[]) Tryz.func13 x13 n13 (by simp) (by simp[IsL]) fun R hR=>?_
 (refine Y_go 600 ?_; dsimp only[go_sem,Nat.reduceBEq])
 refine zj00 (vs:=[.string ⟨⟨mA⟩⟩,.string ⟨⟨mB⟩⟩]) (R:=fun v=>v=.bool true) rfl (fun W hW=>made53 mA mB lA lB W asA asB opA (by decide) (by decide) (by decide) (by decide) (hG.keep hW.fresh') (hT.keep hW.fresh') (hLb.keep hW.fresh')) fun v hv=>⟨.bt,by rw[hv]; simp[Is],?_⟩
 (refine Y_go 600 ?_; dsimp only[go_sem,Nat.reduceBEq])
 refine zj00 (vs:=[.string ⟨⟨mC⟩⟩,.string ⟨⟨mD⟩⟩]) (R:=fun v=>v=.bool true) rfl (fun W hW=>made53 mC mD lC lD W asC asD opC (by decide) (by decide) (by decide) (by decide) (hG.keep hW.fresh') (hT.keep hW.fresh') (hLb.keep hW.fresh')) fun v hv=>⟨.bt,by rw[hv]; simp[Is],?_⟩
 (refine Y_go 600 ?_; dsimp only[go_sem,Nat.reduceBEq])
 exact zj01 (vs:=[.bool true]) r13 rfl rfl fun W hW=>hR _ _ ⟨rfl,hW.fresh'⟩
noncomputable def passL:Nat→List In→List In
 | 0=>foldL
 | 1=>zj0a
 | 2=>skipL
 | 3=>trimL
 | _=>optL
theorem passL_len (n:Nat) (l:List In):(passL n l).length≤l.length:=by
 match n with
 | 0=>exact zj2z 0 l
 | 1=>exact zj2z 1 l
 | 2=>exact zj2z 2 l
 | 3=>exact zj2z 3 l
 | _+4=>exact optL_len l
theorem passAll {n:Nat} (hn:n < 5) (l:List In) (hl:l.length≤1024):PassOk 16 [.int .i64 (n:Int)] l (passL n l):=by
 intro A c w hG hA
 have hL:∀ F:List In→List In,ansP F l=F l:=fun F=>zj25 hl
 have k0:=passOk (j:=0) (by decide) l (by omega)
 have k1:=passOk (j:=1) (by decide) l (by omega)
 have k2:=passOk (j:=2) (by decide) l (by omega)
 have k3:=passOk (j:=3) (by decide) l (by omega)
 have k4:=zj6q l (by omega)
 rw[hL] at k0 k1 k2 k3 k4
 refine zj03 (keep:=K16) (nt:=35) (svs:=[.val (.int .i64 (n:Int)),.val (.slice A l.length c)]) Tryz.func16 x16 n16 (by simp) (by simp[IsL,Is]) fun R hR=>?_
 (refine Y_go 600 ?_; dsimp only[go_sem,Nat.reduceAdd,Nat.reduceBEq])
 refine⟨fun h=>?_,fun h0=>⟨fun h=>?_,fun h1=>⟨fun h=>?_,fun h2=>⟨fun h=>?_,fun h3=>?_⟩⟩⟩⟩
 ·have h:(n:Int)=0:=by simpa using h
  obtain rfl:n=0:=by omega
  refine zj4a rfl (l:=l) (A:=A) (c:=c) k0 rfl (fun W hW=>hG.keep hW.fresh') (fun W hW=>hA.keep hW.fresh') fun A3 c3=>?_
  (refine Y_go 600 ?_; dsimp only[go_sem,Nat.reduceBEq])
  exact zj01 (vs:=[_,_]) r16 rfl rfl fun W hW=>hR _ _ ⟨hW.fresh',_,rfl,hW.owns (i:=0) rfl⟩
 ·have h:(n:Int)=1:=by simpa using h
  obtain rfl:n=1:=by omega
  refine zj4a rfl (l:=l) (A:=A) (c:=c) k1 rfl (fun W hW=>hG.keep hW.fresh') (fun W hW=>hA.keep hW.fresh') fun A3 c3=>?_
  (refine Y_go 600 ?_; dsimp only[go_sem,Nat.reduceBEq])
  exact zj01 (vs:=[_,_]) r16 rfl rfl fun W hW=>hR _ _ ⟨hW.fresh',_,rfl,hW.owns (i:=0) rfl⟩
 ·have h:(n:Int)=2:=by simpa using h
  obtain rfl:n=2:=by omega
  refine zj4a rfl (l:=l) (A:=A) (c:=c) k2 rfl (fun W hW=>hG.keep hW.fresh') (fun W hW=>hA.keep hW.fresh') fun A3 c3=>?_
  (refine Y_go 600 ?_; dsimp only[go_sem,Nat.reduceBEq])
  exact zj01 (vs:=[_,_]) r16 rfl rfl fun W hW=>hR _ _ ⟨hW.fresh',_,rfl,hW.owns (i:=0) rfl⟩
 ·have h:(n:Int)=3:=by simpa using h
  obtain rfl:n=3:=by omega
  refine zj4a rfl (l:=l) (A:=A) (c:=c) k3 rfl (fun W hW=>hG.keep hW.fresh') (fun W hW=>hA.keep hW.fresh') fun A3 c3=>?_
  (refine Y_go 600 ?_; dsimp only[go_sem,Nat.reduceBEq])
  exact zj01 (vs:=[_,_]) r16 rfl rfl fun W hW=>hR _ _ ⟨hW.fresh',_,rfl,hW.owns (i:=0) rfl⟩
 ·have h0:(n:Int) ≠ 0:=by simpa using h0
  have h1:(n:Int) ≠ 1:=by simpa using h1
  have h2:(n:Int) ≠ 2:=by simpa using h2
  have h3:(n:Int) ≠ 3:=by simpa using h3
  obtain rfl:n=4:=by omega
  refine zj4a rfl (l:=l) (A:=A) (c:=c) k4 rfl (fun W hW=>hG.keep hW.fresh') (fun W hW=>hA.keep hW.fresh') fun A3 c3=>?_
  (refine Y_go 600 ?_; dsimp only[go_sem,Nat.reduceBEq])
  exact zj01 (vs:=[_,_]) r16 rfl rfl fun W hW=>hR _ _ ⟨hW.fresh',_,rfl,hW.owns (i:=0) rfl⟩
end Go.Proofs.YtgghmmjoplddbaaGreatDoor
