/- opt's first two examples, in plain words. -/
import Derived.KernelRfl
import Derived.Test.YtlbiogokpadaoaaGreatDoorOpW0
import Derived.Test.YtlbiogokpadaoaaGreatDoorAsW5
import Derived.Test.YtlbiogokpadaoaaGreatDoorOpCodeB
set_option linter.unusedSimpArgs false
set_option linter.unusedVariables false
set_option linter.unnecessarySimpa false
namespace Go.Proofs.YtlbiogokpadaoaaGreatDoor
open Go Go.Sx Go.Isa Go.Lint Go.Asm
theorem trim_all {l:List In} (h:∀ k,k < l.length→∃ b,Go.Lint.Reach l ((k:Int),b)):trimL l=l :=
 zj21 (by rw[zj2r]; exact zj3y _ fun k hk=>zj1s.2 (h k hk))
def mA:B:=[115,101,116,32,49,32,50,10,115,101,116,32,50,32,51,10,97,100,100,32,49,32,49,32,50,10,104,97,108,116]
def mB:B:=[115,101,116,32,49,32,50,10,115,101,116,32,50,32,51,10,115,101,116,32,49,32,53,10,104,97,108,116]
def mC:B:=[106,117,109,112,32,50,10,104,97,108,116,10,106,117,109,112,32,51,10,115,101,116,32,49,32,49]
def mD:B:=[115,101,116,32,49,32,49]
def lA:List In:=[⟨2,1,0,0,2⟩,⟨2,2,0,0,3⟩,⟨4,1,1,2,0⟩,⟨1,0,0,0,0⟩]
def lB:List In:=[⟨2,1,0,0,2⟩,⟨2,2,0,0,3⟩,⟨2,1,0,0,5⟩,⟨1,0,0,0,0⟩]
def lC:List In:=[⟨13,0,0,0,2⟩,⟨1,0,0,0,0⟩,⟨13,0,0,0,3⟩,⟨2,1,0,0,1⟩]
def lD:List In:=[⟨2,1,0,0,1⟩]
def lE:List In:=[⟨13,0,0,0,2⟩,⟨1,0,0,0,0⟩,⟨2,1,0,0,1⟩]
def lF:List In:=[⟨13,0,0,0,1⟩,⟨2,1,0,0,1⟩]
theorem asA:asmL mA=(lA,[],0):=by kernel_rfl
theorem asB:asmL mB=(lB,[],0):=by kernel_rfl
theorem asC:asmL mC=(lC,[],0):=by kernel_rfl
theorem asD:asmL mD=(lD,[],0):=by kernel_rfl
theorem bgA:bgL lA=[0]:=by
 unfold bgL
 rw[if_neg (by simp[lA])]
 exact upI_of (by kernel_rfl) (by kernel_rfl)
theorem bgB:bgL lB=[0]:=by
 unfold bgL
 rw[if_neg (by simp[lB])]
 exact upI_of (by kernel_rfl) (by kernel_rfl)
theorem bgC:bgL lC=[0,1,2,3]:=by
 unfold bgL
 rw[if_neg (by simp[lC])]
 exact upI_of (by kernel_rfl) (by kernel_rfl)
theorem bgD:bgL lD=[0]:=by
 unfold bgL
 rw[if_neg (by simp[lD])]
 exact upI_of (by kernel_rfl) (by kernel_rfl)
theorem bgF:bgL lF=[0,1]:=by
 unfold bgL
 rw[if_neg (by simp[lF])]
 exact upI_of (by kernel_rfl) (by kernel_rfl)
def foldB (l:List In) (bs:List Int):List In:=l.mapIdx fun i x=>(foldI x (stA l bs i) i).1
theorem zj6i {l:List In} {bs:List Int} (h:bgL l=bs):foldL l=foldB l bs:=by subst h; rfl
theorem fA:foldL lA=lB:=(zj6i bgA).trans (by kernel_rfl)
theorem fB:foldL lB=lB:=(zj6i bgB).trans (by kernel_rfl)
theorem fC:foldL lC=lC:=(zj6i bgC).trans (by kernel_rfl)
theorem fD:foldL lD=lD:=(zj6i bgD).trans (by kernel_rfl)
theorem fF:foldL lF=lF:=(zj6i bgF).trans (by kernel_rfl)
theorem tB:zj0a lB=lB:=by kernel_rfl
theorem sB:skipL lB=lB:=by kernel_rfl
def lC2:List In:=[⟨13,0,0,0,3⟩,⟨1,0,0,0,0⟩,⟨13,0,0,0,3⟩,⟨2,1,0,0,1⟩]
theorem tC:zj0a lC=lC2:=by kernel_rfl
theorem sC:skipL lC2=lE:=by kernel_rfl
theorem tF:zj0a lF=lF:=by kernel_rfl
theorem sF:skipL lF=lD:=by kernel_rfl
theorem tD:zj0a lD=lD:=by kernel_rfl
theorem sD:skipL lD=lD:=by kernel_rfl
theorem rB0:Go.Lint.Reach lB (0,false):=.start
theorem rB1:Go.Lint.Reach lB (1,false):=.step (0,false) _ _ rB0 rfl (by kernel_rfl) (by decide)
theorem rB2:Go.Lint.Reach lB (2,false):=.step (1,false) _ _ rB1 rfl (by kernel_rfl) (by decide)
theorem rB3:Go.Lint.Reach lB (3,false):=.step (2,false) _ _ rB2 rfl (by kernel_rfl) (by decide)
theorem gB':trimL lB=lB:=trim_all fun k hk=>⟨false,by
 match k,hk with
 | 0,_=>exact rB0
 | 1,_=>exact rB1
 | 2,_=>exact rB2
 | 3,_=>exact rB3⟩
theorem gD:trimL lD=lD:=trim_all fun k hk=>⟨false,by
 match k,hk with
 | 0,_=>exact .start⟩
theorem rE (s:Spot) (h:Go.Lint.Reach lE s):s=(0,false)∨s=(2,false)∨s=(3,false):=by
 induction h with
 | start=>exact .inl rfl
 | step s n x h1 h2 h3 h4 ih =>
  rcases ih with rfl | rfl | rfl
  ·injection h2 with h2; subst h2
   have h4:n ∈ [((2:Int),false)]:=h4
   simp at h4; exact .inr (.inl h4)
  ·injection h2 with h2; subst h2
   have h4:n ∈ [((3:Int),false)]:=h4
   simp at h4; exact .inr (.inr h4)
  ·cases h2
theorem gE:trimL lE=lF:=by
 have h0:neverB lE 0=false:=zj1s.2 ⟨false,.start⟩
 have h2:neverB lE 2=false:=zj1s.2 ⟨false,.step (0,false) _ _ .start rfl (by kernel_rfl) (by decide)⟩
 have h1:neverB lE 1=true:=by
  cases h:neverB lE 1 with
  | true=>rfl
  | false =>
   obtain⟨b,hb⟩:=zj1s.1 h
   rcases rE _ hb with h | h | h <;> simp at h
 have key:∀ g:Nat→Bool,g 0=false→g 1=true→g 2=false→dropP g lE=lF:=by
  intro g h0 h1 h2
  have g1:goK ⟨13,0,0,0,2⟩=1:=by kernel_rfl
  have g2:goK ⟨2,1,0,0,1⟩=0:=by kernel_rfl
  show dropTo g lE 3=lF
  simp[dropTo,lE,lF,adjI,leftN,h0,h1,h2,g1,g2]
 exact key _ h0 h1 h2
theorem oA:optR lA=lB:=by unfold optR; rw[fA,tB,sB,gB']
theorem oB:optR lB=lB:=by unfold optR; rw[fB,tB,sB,gB']
theorem oC:optR lC=lF:=by unfold optR; rw[fC,tC,sC,gE]
theorem oF:optR lF=lD:=by unfold optR; rw[fF,tF,sF,gD]
theorem oD:optR lD=lD:=by unfold optR; rw[fD,tD,sD,gD]
theorem ne1:lB ≠ lA:=by decide
theorem ne2:lF ≠ lC:=by decide
theorem ne3:lD ≠ lF:=by decide
theorem opA:optL lA=lB:=by rw[zj3f (by rw[oA]; exact ne1),oA,zj78 oB]
theorem opC:optL lC=lD:=by rw[zj3f (by rw[oC]; exact ne2),oC,zj3f (by rw[oF]; exact ne3),oF,zj78 oD]
end Go.Proofs.YtlbiogokpadaoaaGreatDoor
namespace Go.Proofs.YtlbiogokpadaoaaGreatDoor
open Go Go.Sx Go.Isa Go.Asm
set_option maxRecDepth 100000
theorem owns_slc {w:World} {N:Nat} {t:TypeId} {sz n:Nat} {v:Value} {xs:List Value} (h:World.ownsB w N t sz v n xs):∃ A c,v=.slice A n c:=by
 obtain⟨_,⟨A,rfl,rfl,_⟩ | ⟨g,b,cap,cur,rfl,_⟩⟩:=h
 ·exact⟨A,0,rfl⟩
 ·exact⟨_,_,rfl⟩
theorem made53 (s t:B) (l m:List In) (w:World) (hs:asmL s=(l,[],0)) (ht:asmL t=(m,[],0)) (hm:optL l=m) (hl:l.length≤1000) (hm0:m ≠ []) (hsl:s.length≤400000) (htl:t.length≤400000) (hG:ShAt w) (hT:TabAt w) (hLb:LibAt w) :
  CallsV Tryz.prog 53 [.string ⟨⟨s⟩⟩,.string ⟨⟨t⟩⟩] w fun v w'=>v=.bool true∧Fresh w w':=by
 refine zj03 (keep:=K53) (nt:=72) (svs:=[.val (.string ⟨⟨s⟩⟩),.val (.string ⟨⟨t⟩⟩)]) Tryz.func53 x53 n53 (by simp) (by simp[IsL,Is]) fun R hR=>?_
 (refine Y_go 600 ?_; dsimp only[go_sem,Nat.reduceAdd,Nat.reduceBEq])
 refine zj1f (vs:=[.string ⟨⟨s⟩⟩]) rfl (R:=fun W v W'=>∃ (A:Option Addr) (c:Nat),v=.tuple #[.slice A l.length c,.int .i64 0,.int .i64 0]∧RowAt W' A (cellsI l)∧Fresh W W') (fun W hW=>(zj6h s W hsl (hG.keep hW.fresh') (hT.keep hW.fresh') (hLb.keep hW.fresh')).mono fun v w' h=>by
  rw[hs] at h; obtain⟨A,c,h1,h2,h3⟩:=h; exact⟨A,c,h1,.of_own h2 rfl,h3⟩) (fun W v W' h=>by obtain⟨_,_,_,_,h⟩:=h; exact h) fun W v W1 hW ⟨A,c,hv,kA,hk⟩ _=>?_
 subst hv
 have hw1:Fresh w W1:=Fresh.tr hW.fresh' hk
 refine⟨.tup [.val (.slice A l.length c),.val (.int .i64 0),.val (.int .i64 0)],by simp[Is,IsL],?_⟩
 rw[show fps ([]:List SO)=[] from rfl]
 (refine Y_go 600 ?_; dsimp only[go_sem,Nat.reduceBEq])
 refine zj1f (vs:=[.string ⟨⟨t⟩⟩]) rfl (R:=fun W v W'=>∃ (A:Option Addr) (c:Nat),v=.tuple #[.slice A m.length c,.int .i64 0,.int .i64 0]∧RowAt W' A (cellsI m)∧Fresh W W') (fun W hW=>(zj6h t W htl (hG.keep (Fresh.tr hw1 hW.fresh')) (hT.keep (Fresh.tr hw1 hW.fresh')) (hLb.keep (Fresh.tr hw1 hW.fresh'))).mono fun v w' h=>by
  rw[ht] at h; obtain⟨A,c,h1,h2,h3⟩:=h; exact⟨A,c,h1,.of_own h2 rfl,h3⟩) (fun W v W' h=>by obtain⟨_,_,_,_,h⟩:=h; exact h) fun W v W2 hW ⟨A2,c2,hv,kA2,hk2⟩ _=>?_
 subst hv
 have hw12:Fresh W1 W2:=Fresh.tr hW.fresh' hk2
 have hw2:Fresh w W2:=Fresh.tr hw1 hw12
 refine⟨.tup [.val (.slice A2 m.length c2),.val (.int .i64 0),.val (.int .i64 0)],by simp[Is,IsL],?_⟩
 rw[show fps ([]:List SO)=[] from rfl]
 (refine Y_go 600 ?_; dsimp only[go_sem,Nat.reduceBEq])
 refine zj1f (vs:=[.slice A l.length c]) rfl (R:=fun W v W'=>∃ (A:Option Addr) (c:Nat),v=.tuple #[.slice A m.length c,.int .i64 0]∧RowAt W' A (cellsI m)∧Fresh W W') (fun W hW=>(zj6f l (by omega) A c W (hG.keep (Fresh.tr hw2 hW.fresh')) (kA.keep (Fresh.tr hw12 hW.fresh'))).mono fun v w' h=>by
  obtain⟨hk,s,hv,hs⟩:=h
  rw[zj2a (by omega)] at hv
  rw[zj23 (by omega),hm] at hs
  obtain⟨A,c,rfl⟩:=owns_slc hs
  exact⟨A,c,hv,.of_own hs rfl,hk⟩) (fun W v W' h=>by obtain⟨_,_,_,_,h⟩:=h; exact h) fun W v W3 hW ⟨A3,c3,hv,kA3,hk3⟩ _=>?_
 subst hv
 have hw23:Fresh W2 W3:=Fresh.tr hW.fresh' hk3
 have hw3:Fresh w W3:=Fresh.tr hw2 hw23
 have kB:RowAt W3 A2 (cellsI m):=kA2.keep hw23
 refine⟨.tup [.val (.slice A3 m.length c3),.val (.int .i64 0)],by simp[Is,IsL],?_⟩
 rw[show fps ([]:List SO)=[] from rfl]
 clear kA kA2
 (refine Y_go 600 ?_; dsimp only[go_sem,Nat.reduceBEq])
 have hml:m.length≤1000:=by rw[← hm]; exact Nat.le_trans (zj79 l) hl
 have no:((0:Int) != 0)=true→False:=fun h=>by simp at h
 have fin:G (cxOf Tryz.prog Tryz.f53 K53 T53 R) ⟨W3,W3.heap.size,[],72,[]⟩ [.code (.loop (.ref 5)),.blk 0,.code (.ref 6)] { F:=[(0,.val (.string ⟨⟨s⟩⟩)),(1,.val (.string ⟨⟨t⟩⟩)),(4,.bf),(5,.val (.slice A l.length c)),(7,.val (.int .i64 0)),(8,.val (.slice A2 m.length c2)),(10,.val (.int .i64 0)),(11,.val (.slice A3 m.length c3)),(12,.val (.int .i64 0)),(56,.bf),(58,.val (.int .i64 m.length)),(59,.val (.int .i64 0))],H:=[] }:=by
  refine zj09 (α:=Nat) (fun i=>i≤m.length) (fun _=>⟨W3,W3.heap.size,[],72,[]⟩) (fun i=>{ F:=[(8,.val (.slice A2 m.length c2)),(11,.val (.slice A3 m.length c3)),(58,.val (.int .i64 m.length)),(59,.val (.int .i64 (i:Int)))],H:=[] }) (fun i=>m.length - i) (fun _=>rfl) ?start ?round
  case start =>
   intro a W rep
   exact⟨0,Nat.zero_le _,rep.lp⟩
  case round =>
   intro i hi I hI
   have hi:i≤m.length:=hi
   (refine Y_go 600 ?_; dsimp only[go_sem,Nat.reduceBEq])
   refine⟨fun hlt=>?_,fun hge=>?_⟩
   ·have hlt:i < m.length:=by have:=of_decide_eq_true hlt; omega
    refine⟨⟨by omega,by omega,someI kB hlt⟩,_,cellI kB hlt (k:=0) rfl,_,cellI kB hlt (k:=1) rfl,_,cellI kB hlt (k:=2) rfl,_,cellI kB hlt (k:=3) rfl,_,cellI kB hlt (k:=4) rfl,
     ⟨by omega,by omega,someI kA3 hlt⟩,_,cellI kA3 hlt (k:=0) rfl,_,cellI kA3 hlt (k:=1) rfl,_,cellI kA3 hlt (k:=2) rfl,_,cellI kA3 hlt (k:=3) rfl,_,cellI kA3 hlt (k:=4) rfl,?_⟩
    refine⟨fun h=>absurd h (by simp),fun h=>⟨_,.add64 (by omega) (by omega),zj01 fun a W rep=>hI (i+1) (by omega) (by omega) a W (rep.lq)⟩⟩
   ·exact zj02 (vs:=[.bool true]) r53 rfl rfl fun W hW=>hR _ _ ⟨rfl,Fresh.tr hw3 hW.fresh'⟩
 refine⟨fun h=>(no h).elim,fun _=>⟨fun h=>(no h).elim,fun _=>⟨fun h=>(no h).elim,fun _=>⟨fun h=>absurd h (by simp),fun _=>⟨fun _=>⟨fun h=>absurd h ?_,fun _=>fin⟩,fun _=>fin⟩⟩⟩⟩⟩
 intro h
 have h:(m.length:Int)=0:=by simpa using h
 exact hm0 (List.length_eq_zero_iff.1 (by omega))
theorem alive25 (w:World) (hG:ShAt w) (hT:TabAt w) (hLb:LibAt w):CallsV Tryz.prog 25 [] w fun v w'=>v=.bool true∧Fresh w w':=by
 refine zj03 (keep:=K25) (nt:=5) (svs:=[]) Tryz.func25 x25 n25 (by simp) (by simp[IsL]) fun R hR=>?_
 (refine Y_go 600 ?_; dsimp only[go_sem,Nat.reduceBEq])
 refine zj00 (vs:=[.string ⟨⟨mA⟩⟩,.string ⟨⟨mB⟩⟩]) (R:=fun v=>v=.bool true) rfl (fun W hW=>made53 mA mB lA lB W asA asB opA (by decide) (by decide) (by decide) (by decide) (hG.keep hW.fresh') (hT.keep hW.fresh') (hLb.keep hW.fresh')) fun v hv=>⟨.bt,by rw[hv]; simp[Is],?_⟩
 (refine Y_go 600 ?_; dsimp only[go_sem,Nat.reduceBEq])
 refine zj00 (vs:=[.string ⟨⟨mC⟩⟩,.string ⟨⟨mD⟩⟩]) (R:=fun v=>v=.bool true) rfl (fun W hW=>made53 mC mD lC lD W asC asD opC (by decide) (by decide) (by decide) (by decide) (hG.keep hW.fresh') (hT.keep hW.fresh') (hLb.keep hW.fresh')) fun v hv=>⟨.bt,by rw[hv]; simp[Is],?_⟩
 (refine Y_go 600 ?_; dsimp only[go_sem,Nat.reduceBEq])
 exact zj02 (vs:=[.bool true]) r25 rfl rfl fun W hW=>hR _ _ ⟨rfl,hW.fresh'⟩
end Go.Proofs.YtlbiogokpadaoaaGreatDoor
namespace Go.Proofs.YtlbiogokpadaoaaGreatDoor
open Go Go.Sx Go.Isa Go.Lint
def ClnP (l:List In):Prop:=∀ s,Go.Lint.Reach l s→(∀ x,l[s.1.toNat]? = some x→legalB x=true∧fnd x s=[])∧((l.length:Int)≤s.1→s.2=false)
theorem reach_range {l:List In} (hl:l.length≤1024) {s:Spot} (h:Go.Lint.Reach l s):0≤s.1∧s.1≤1024:=by
 induction h with
 | start=>exact⟨by decide,by decide⟩
 | step s n x hr hx hlg hn ih=>exact nxt_range ih.1 hx hl hn
theorem goK1 {x:In} (h:goK x=1):legalB x=true∧x.op=13∧0≤x.imm∧x.imm≤1024:=by
 unfold goK at h
 split at h
 ·rename_i hk
  split at h
  ·exact⟨hk.1,by assumption,hk.2⟩
  ·split at h <;> omega
 ·omega
theorem goK_nz {x:In} (h:goK x ≠ 0):legalB x=true∧(13≤x.op∧x.op≤16)∧0≤x.imm∧x.imm≤1024:=by
 unfold goK at h
 split at h
 ·rename_i hk
  split at h
  ·exact⟨hk.1,by omega,hk.2⟩
  ·split at h
   ·exact⟨hk.1,by omega,hk.2⟩
   ·exact absurd rfl h
 ·exact absurd rfl h
theorem nxt_imm {x:In} {s:Spot} (h1:13≤x.op∧x.op≤16) (h2:0≤x.imm∧x.imm≤1024):(x.imm,s.2) ∈ nxt x s:=by
 unfold nxt
 rw[if_neg (by omega),if_neg (by omega),if_neg (by omega),if_neg (by omega),if_pos h1,if_neg (by omega)]
 simp
theorem jump_on {l:List In} {p:Int} {b:Bool} {x:In} (hr:Go.Lint.Reach l (p,b)) (hx:l[p.toNat]? = some x) (hg:goK x=1):Go.Lint.Reach l (x.imm,b):=by
 obtain⟨h1,h2,h3⟩:=goK1 hg
 exact .step (p,b) _ x hr hx h1 (nxt_imm (s:=(p,b)) (by omega) h3)
theorem thr_reach {l:List In} {b:Bool}:∀ (n:Nat) (led:List Int) (p:Int),Go.Lint.Reach l (p,b)→Go.Lint.Reach l (thr l n led p,b)
 | 0,_,_,h=>h
 | n+1,led,p,h=>by
  unfold thr
  cases hx:l[p.toNat]? with
  | none=>exact h
  | some x =>
   by_cases hg:goK x=1∧x.imm ∉ p :: led
   ·simp only[if_pos hg]; exact thr_reach n _ _ (jump_on h hx hg.1)
   ·simp only[if_neg hg]; exact h
theorem cln_same {l m:List In} (hlen:m.length=l.length) (hl:l.length≤1024) (h:ClnP l)
  (hx:∀ (i:Nat) x y b,l[i]? = some x→m[i]? = some y→Go.Lint.Reach l ((i:Int),b)→legalB x=true→fnd x ((i:Int),b)=[]→legalB y=true∧fnd y ((i:Int),b)=[]∧∀ n ∈ nxt y ((i:Int),b),Go.Lint.Reach l n):ClnP m:=by
 have one:∀ s y,Go.Lint.Reach l s→0≤s.1→m[s.1.toNat]? = some y→legalB y=true∧fnd y s=[]∧∀ n ∈ nxt y s,Go.Lint.Reach l n:=by
  intro s y hr h0 hy
  have hi:=(List.getElem?_eq_some_iff.1 hy).1
  have hx':l[s.1.toNat]? = some l[s.1.toNat]:=List.getElem?_eq_getElem (by omega)
  have hc:=(h s hr).1 _ hx'
  have es:(((s.1.toNat:Nat):Int),s.2)=s:=by
   obtain⟨p,b⟩:=s
   have h0:0≤p:=h0
   show (((p.toNat:Nat):Int),b)=(p,b)
   rw[show ((p.toNat:Nat):Int)=p by omega]
  have:=hx s.1.toNat _ y s.2 hx' hy (by rw[es]; exact hr) hc.1 (by rw[es]; exact hc.2)
  rw[es] at this
  exact this
 have key:∀ s,Go.Lint.Reach m s→Go.Lint.Reach l s∧0≤s.1:=by
  intro s hs
  induction hs with
  | start=>exact⟨.start,by decide⟩
  | step s n y hr hy hlg hn ih=>exact⟨(one s y ih.1 ih.2 hy).2.2 n hn,(nxt_range ih.2 hy (by omega) hn).1⟩
 intro s hs
 obtain⟨h1,h2⟩:=key s hs
 refine⟨fun y hy=>?_,fun hge=>(h s h1).2 (by omega)⟩
 have:=one s y h1 h2 hy
 exact⟨this.1,this.2.1⟩
theorem reg_of {x:In} (h:legalB x=true) (h1:2≤x.op∧x.op≤10):isReg x.a=true:=by
 unfold legalB at h
 simp only[Bool.and_eq_true,Bool.or_eq_true,Bool.not_eq_true'] at h
 rcases h.1.1.2 with h | h
 ·have e:x.op=2∨x.op=3∨x.op=4∨x.op=5∨x.op=6∨x.op=7∨x.op=8∨x.op=9∨x.op=10:=by omega
  rcases e with e | e | e | e | e | e | e | e | e <;> rw[e] at h <;> exact absurd h (by decide)
 ·exact h
theorem fold_same (x:In) (s:List (Option Int)) (p:Nat) (hp:p < 1024) (b:Bool) (hlg:legalB x=true) (hf:fnd x ((p:Int),b)=[]) :
  legalB (foldI x s p).1=true∧fnd (foldI x s p).1 ((p:Int),b)=[]∧∀ n ∈ nxt (foldI x s p).1 ((p:Int),b),n ∈ nxt x ((p:Int),b):=by
 unfold foldI
 rw[hlg,if_neg (by simp)]
 have same:legalB x=true∧fnd x ((p:Int),b)=[]∧∀ n ∈ nxt x ((p:Int),b),n ∈ nxt x ((p:Int),b):=⟨hlg,hf,fun _ h=>h⟩
 split
 ·rename_i hb
  split
  ·unfold brG at hb
   simp only[Bool.and_eq_true,decide_eq_true_eq] at hb
   have him:0≤x.imm∧x.imm≤1024:=hb.1.2
   have hop:=hb.2
   have hnx:(doB x (rgO s) p).next=x.imm∨(doB x (rgO s) p).next=(p:Int)+1:=by
    unfold doB
    rw[if_pos ⟨hlg,by omega,by omega⟩]
    have e:x.op=14∨x.op=15∨x.op=16:=by omega
    have hn:¬ (x.imm < 0∨1024 < x.imm):=by omega
    rcases e with e | e | e <;> (simp only[doE,e]; simp[goE,hn]; split <;> simp)
   have hxn:nxt x ((p:Int),b)=[(x.imm,b),((p:Int)+1,b)]:=by
    unfold nxt
    rw[if_neg (by omega),if_neg (by omega),if_neg (by omega),if_neg (by omega),if_pos (by omega),if_neg (by omega),if_neg (by omega)]
    rfl
   generalize (doB x (rgO s) p).next=q at hnx ⊢
   have hq:0≤q∧q≤1024:=by omega
   refine⟨by show legalB ⟨13,0,0,0,q⟩=true; rfl,?_,?_⟩
   ·show fnd ⟨13,0,0,0,q⟩ _=[]
    unfold fnd
    simp; omega
   ·show ∀ n ∈ nxt ⟨13,0,0,0,q⟩ ((p:Int),b),_
    have:nxt ⟨13,0,0,0,q⟩ ((p:Int),b)=[(q,b)]:=by
     unfold nxt
     have:¬ (q < 0∨1024 < q):=by omega
     simp[this]
    rw[this,hxn]
    intro n hn
    rw[List.mem_singleton] at hn
    subst hn
    rcases hnx with rfl | rfl <;> simp
  ·exact same
 ·split
  ·exact same
  ·split
   ·exact same
   ·rename_i h11 hop
    split
    ·dsimp only
     split
     ·have hr:=reg_of hlg (by omega)
      refine⟨?_,?_,?_⟩
      ·show legalB ⟨2,x.a,0,0,_⟩=true
       unfold legalB
       rw[hr]; rfl
      ·simp[fnd]
      ·intro n hn
       have e2:∀ q,nxt ⟨2,x.a,0,0,q⟩ ((p:Int),b)=[((p:Int)+1,b)]:=fun q=>by unfold nxt; simp
       rw[e2] at hn
       unfold nxt
       rw[if_neg (by omega),if_neg (by omega),if_neg (by omega),if_neg (by omega),if_neg (by omega)]
       exact hn
     ·exact same
    ·exact same
theorem cln_fold {l:List In} (hl:l.length≤1024) (h:ClnP l):ClnP (foldL l):=by
 refine cln_same (zj1b l) hl h fun i x y b hx hy hr hlg hf=>?_
 rw[foldL_get hx] at hy
 injection hy with hy; subst hy
 have hi:=(List.getElem?_eq_some_iff.1 hx).1
 obtain⟨h1,h2,h3⟩:=fold_same x (stA l (bgL l) i) i (by omega) b hlg hf
 exact⟨h1,h2,fun n hn=>.step ((i:Int),b) n x hr (by simpa using hx) hlg (h3 n hn)⟩
theorem cln_thread {l:List In} (hl:l.length≤1024) (h:ClnP l):ClnP (zj0a l):=by
 refine cln_same (zj18 l) hl h fun i x y b hx hy hr hlg hf=>?_
 have e:y=thrI l x:=by
  unfold zj0a at hy
  rw[List.getElem?_map,hx] at hy
  injection hy with hy; exact hy.symm
 subst e
 have on:∀ n ∈ nxt x ((i:Int),b),Go.Lint.Reach l n:=fun n hn=>.step ((i:Int),b) n x hr (by simpa using hx) hlg hn
 unfold thrI
 split
 ·exact⟨hlg,hf,on⟩
 ·rename_i hg
  obtain⟨_,h2,h3⟩:=goK_nz hg
  have ht:Go.Lint.Reach l (thr l l.length [] x.imm,b):=thr_reach _ _ _ (on _ (nxt_imm (s:=((i:Int),b)) h2 h3))
  have hq:=reach_range hl ht
  generalize thr l l.length [] x.imm=q at ht hq
  have hq:0≤q∧q≤1024:=hq
  refine⟨hlg,?_,fun n hn=>?_⟩
  ·show fnd { x with imm:=q } _=[]
   unfold fnd
   dsimp only
   rw[if_neg (by omega),if_neg (by omega),if_neg (by omega),if_neg (by omega),if_neg (by omega)]
  ·have hn2:n ∈ nxt { x with imm:=q } ((i:Int),b):=hn
   unfold nxt at hn2
   dsimp only at hn2
   rw[if_neg (by omega),if_neg (by omega),if_neg (by omega),if_neg (by omega),if_pos h2,if_neg (by omega)] at hn2
   rcases List.mem_append.1 hn2 with hn2 | hn2
   ·rw[List.mem_singleton] at hn2; subst hn2; exact ht
   ·refine on n ?_
    unfold nxt
    rw[if_neg (by omega),if_neg (by omega),if_neg (by omega),if_neg (by omega),if_pos h2]
    exact List.mem_append_right _ hn2
theorem leftN_mono {gone:Nat→Bool}:∀ {a b:Nat},a≤b→leftN gone a≤leftN gone b:=by
 intro a b h
 induction b with
 | zero => have : a = 0 := by omega
           subst this; exact Nat.le_refl _
 | succ b ih =>
  by_cases e:a=b+1
  ·subst e; exact Nat.le_refl _
  ·refine Nat.le_trans (ih (by omega)) ?_
   show leftN gone b≤leftN gone b+_
   omega
theorem leftN_gone {gone:Nat→Bool} {n:Nat} (h:gone n=true):leftN gone (n+1)=leftN gone n:=by simp[leftN,h]
theorem drop_norm {l:List In} {gone:Nat→Bool} (hg:∀ (i:Nat) b,i < l.length→gone i=true→Go.Lint.Reach l ((i:Int),b)→Go.Lint.Reach l ((i:Int)+1,b)) {b:Bool} :
  ∀ (k p:Nat),p+k=l.length→Go.Lint.Reach l ((p:Int),b)→∃ q,q≤l.length∧Go.Lint.Reach l ((q:Int),b)∧leftN gone q=leftN gone p∧(q=l.length∨(q < l.length∧gone q=false))
 | 0,p,e,h=>⟨p,by omega,h,rfl,.inl (by omega)⟩
 | k+1,p,e,h=>by
  cases hp:gone p with
  | false=>exact⟨p,by omega,h,rfl,.inr ⟨by omega,hp⟩⟩
  | true =>
   obtain⟨q,h1,h2,h3,h4⟩:=drop_norm hg k (p+1) (by omega) (by have:=hg p b (by omega) hp h; simpa using this)
   exact⟨q,h1,h2,h3.trans (leftN_gone hp),h4⟩
theorem cln_drop {l:List In} {gone:Nat→Bool} (hl:l.length≤1024) (h:ClnP l) (hg:∀ (i:Nat) b,i < l.length→gone i=true→Go.Lint.Reach l ((i:Int),b)→Go.Lint.Reach l ((i:Int)+1,b)):ClnP (dropP gone l):=by
 have hm:(dropP gone l).length=leftN gone l.length:=zj2r gone l
 have hml:=zj1r gone l.length
 have norm:∀ (p:Int) (b:Bool),0≤p→p≤l.length→Go.Lint.Reach l (p,b)→∃ q:Int,Go.Lint.Reach l (q,b)∧((0≤q∧q < l.length∧gone q.toNat=false∧((leftN gone p.toNat:Nat):Int)=(leftN gone q.toNat:Nat))∨((l.length:Int)≤q∧((leftN gone l.length:Nat):Int)≤(leftN gone p.toNat:Nat))):=by
  intro p b h0 h1 hr
  obtain⟨q,q1,q2,q3,q4⟩:=drop_norm hg (l.length - p.toNat) p.toNat (by omega) (by rw[show ((p.toNat:Nat):Int)=p by omega]; exact hr)
  refine⟨(q:Int),q2,?_⟩
  rcases q4 with rfl | ⟨q4,q5⟩
  ·exact .inr ⟨Int.le_refl _,by omega⟩
  ·refine .inl ⟨by omega,by omega,by simpa using q5,?_⟩
   rw[show ((q:Nat):Int).toNat=q by omega,q3]
 have at_:∀ (p:Int) (x y:In) (s1:Int),0≤p→gone p.toNat=false→s1=(leftN gone p.toNat:Nat)→l[p.toNat]? = some x→(dropP gone l)[s1.toNat]? = some y→y=adjI gone l.length x:=by
  intro p x y s1 _ hgp e hx hy
  have:=dropP_at hx hgp
  rw[e,show (((leftN gone p.toNat:Nat):Int)).toNat=leftN gone p.toNat by omega,this] at hy
  injection hy with hy; exact hy.symm
 have key:∀ s,Go.Lint.Reach (dropP gone l) s→0≤s.1∧∃ p:Int,Go.Lint.Reach l (p,s.2)∧((0≤p∧p < l.length∧gone p.toNat=false∧s.1=(leftN gone p.toNat:Nat))∨((l.length:Int)≤p∧((leftN gone l.length:Nat):Int)≤s.1)):=by
  intro s hs
  induction hs with
  | start =>
   refine⟨by decide,?_⟩
   obtain⟨q,h1,h2⟩:=norm 0 false (by decide) (by omega) .start
   refine⟨q,h1,?_⟩
   have e0:leftN gone (0:Int).toNat=0:=rfl
   rw[e0] at h2
   exact h2
  | step s n y hr hy hlg hn ih =>
   obtain⟨h0,p,hp,hc⟩:=ih
   have hi:=(List.getElem?_eq_some_iff.1 hy).1
   rw[hm] at hi
   refine⟨(nxt_range h0 hy (by omega) hn).1,?_⟩
   obtain⟨p0,p1,pg,pe⟩:0≤p∧p < l.length∧gone p.toNat=false∧s.1=(leftN gone p.toNat:Nat):=by
    rcases hc with hc | ⟨_,hge⟩
    ·exact hc
    ·omega
   clear hc
   have hx:l[p.toNat]? = some l[p.toNat]:=List.getElem?_eq_getElem (by omega)
   have ey:=at_ p _ y s.1 p0 pg pe hx hy
   generalize l[p.toNat]=x at hx ey
   have hcl:=(h (p,s.2) hp).1 x hx
   have on:∀ t ∈ nxt x (p,s.2),Go.Lint.Reach l t:=fun t ht=>.step (p,s.2) t x hp hx hcl.1 ht
   have next:∀ b,Go.Lint.Reach l (p+1,b)→n=(s.1+1,b)→∃ q:Int,Go.Lint.Reach l (q,n.2)∧((0≤q∧q < l.length∧gone q.toNat=false∧n.1=(leftN gone q.toNat:Nat))∨((l.length:Int)≤q∧((leftN gone l.length:Nat):Int)≤n.1)):=by
    rintro b hb rfl
    obtain⟨q,q1,q2⟩:=norm (p+1) b (by omega) (by omega) hb
    refine⟨q,q1,?_⟩
    have e:((leftN gone (p+1).toNat:Nat):Int)=s.1+1:=by
     rw[show (p+1).toNat=p.toNat+1 by omega,zj20 pg,pe]; omega
    rw[e] at q2
    exact q2
   have hop:=adjI_op gone l.length x
   subst ey
   unfold nxt at hn
   rw[hop] at hn
   unfold nxt at on
   split at hn
   ·simp at hn
   ·rename_i k1
    rw[if_neg k1] at on
    split at hn
    ·simp at hn
    ·rename_i k2
     rw[if_neg k2] at on
     split at hn
     ·simp at hn
     ·rename_i k3
      rw[if_neg k3] at on
      split at hn
      ·rename_i k4
       rw[if_pos k4] at on
       exact next _ (on _ (by simp)) (List.mem_singleton.1 hn)
      ·rename_i k4
       rw[if_neg k4] at on
       split at hn
       ·rename_i k5
        rw[if_pos k5] at on
        have him:0≤x.imm∧x.imm≤1024:=by
         have:=hcl.2
         unfold fnd at this
         rw[if_neg k1,if_neg k2,if_neg k3,if_neg k4] at this
         by_cases hh:13≤x.op∧x.op≤16∧(x.imm < 0∨1024 < x.imm)
         ·rw[if_pos hh] at this; cases this
         ·omega
        rw[if_neg (by omega:¬ (x.imm < 0∨1024 < x.imm))] at on
        rcases List.mem_append.1 hn with hn | hn
        ·have hr1:Go.Lint.Reach l (x.imm,s.2):=on _ (List.mem_append_left _ (by simp))
         have hgk:goK x ≠ 0:=by
          unfold goK
          rw[if_pos ⟨hcl.1,him⟩]
          split
          ·decide
          ·rw[if_pos (by omega)]; decide
         split at hn
         ·simp at hn
         ·rw[List.mem_singleton] at hn
          subst hn
          unfold adjI
          by_cases hlt:x.imm < l.length
          ·rw[if_pos ⟨hgk,hlt⟩]
           exact norm x.imm s.2 him.1 (by omega) hr1
          ·rw[if_neg (fun k=>hlt k.2)]
           exact⟨x.imm,hr1,.inr ⟨by omega,by show _≤x.imm; omega⟩⟩
        ·split at hn
         ·simp at hn
         ·rename_i k6
          rw[if_neg k6] at on
          exact next _ (on _ (List.mem_append_right _ (by simp))) (List.mem_singleton.1 hn)
       ·rename_i k5
        rw[if_neg k5] at on
        exact next _ (on _ (by simp)) (List.mem_singleton.1 hn)
 intro s hs
 obtain⟨h0,p,hp,hc⟩:=key s hs
 rcases hc with⟨p0,p1,pg,pe⟩ | ⟨hge,hge2⟩
 ·have hx:l[p.toNat]? = some l[p.toNat]:=List.getElem?_eq_getElem (by omega)
  refine⟨fun y hy=>?_,fun hge=>?_⟩
  ·have ey:=at_ p _ y s.1 p0 pg pe hx hy
   generalize l[p.toNat]=x at hx ey
   have hcl:=(h (p,s.2) hp).1 x hx
   subst ey
   refine⟨by rw[zj3z]; exact hcl.1,?_⟩
   have hf:=hcl.2
   unfold fnd at hf ⊢
   rw[adjI_op]
   split
   ·rename_i k; rw[if_pos k] at hf; exact hf
   ·rename_i k; rw[if_neg k] at hf
    split
    ·rename_i k; rw[if_pos k] at hf; cases hf
    ·rename_i k; rw[if_neg k] at hf
     split
     ·rename_i k; rw[if_pos k] at hf; cases hf
     ·rename_i k; rw[if_neg k] at hf
      split
      ·rfl
      ·rename_i k; rw[if_neg k] at hf
       by_cases hh:13≤x.op∧x.op≤16∧(x.imm < 0∨1024 < x.imm)
       ·rw[if_pos hh] at hf; cases hf
       ·rw[if_neg]
        rintro ⟨k1,k2,k3⟩
        unfold adjI at k3
        split at k3
        ·have:=zj1r gone x.imm.toNat
         have k3:((leftN gone x.imm.toNat:Nat):Int) < 0∨1024 < ((leftN gone x.imm.toNat:Nat):Int):=k3
         omega
        ·omega
  ·exfalso
   rw[hm] at hge
   have:=leftN_mono (gone:=gone) (show p.toNat+1≤l.length by omega)
   rw[zj20 pg] at this
   omega
 ·refine⟨fun y hy=>?_,fun _=>(h (p,s.2) hp).2 hge⟩
  have hi:=(List.getElem?_eq_some_iff.1 hy).1
  rw[hm] at hi
  omega
theorem cln_skip1 {l:List In} (hl:l.length≤1024) (h:ClnP l):ClnP (skip1 l):=by
 refine cln_drop hl h fun i b hi hg hr=>?_
 have hx:l[i]? = some l[i]:=List.getElem?_eq_getElem hi
 unfold skipB at hg
 rw[hx] at hg
 have hg:goK l[i]=1∧(l[i]).imm=(i:Int)+1:=by simpa using hg
 have:=jump_on hr (by simpa using hx) hg.1
 rw[hg.2] at this
 exact this
theorem cln_skipN:∀ (n:Nat) {l:List In},l.length≤1024→ClnP l→ClnP (skipN n l)
 | 0,_,_,h=>h
 | n+1,l,hl,h=>cln_skipN n (Nat.le_trans (zj22 l) hl) (cln_skip1 hl h)
theorem cln_trim {l:List In} (hl:l.length≤1024) (h:ClnP l):ClnP (trimL l):=by
 refine cln_drop hl h fun i b hi hg hr=>?_
 rw[zj1s.2 ⟨b,hr⟩] at hg
 cases hg
theorem cln_optR {l:List In} (hl:l.length≤1024) (h:ClnP l):ClnP (optR l):=by
 have h1:=cln_fold hl h
 have l1:(foldL l).length≤1024:=by rw[zj1b]; exact hl
 have h2:=cln_thread l1 h1
 have l2:(zj0a (foldL l)).length≤1024:=by rw[zj18]; exact l1
 have h3:ClnP (skipL (zj0a (foldL l))):=cln_skipN _ l2 h2
 have l3:(skipL (zj0a (foldL l))).length≤1024:=Nat.le_trans (zj2s _) l2
 exact cln_trim l3 h3
theorem cln_optN:∀ (n:Nat) {l:List In},l.length≤1024→ClnP l→ClnP (optN n l)
 | 0,_,_,h=>h
 | n+1,l,hl,h=>by
  unfold optN
  split
  ·exact h
  ·exact cln_optN n (Nat.le_trans (zj77 l) hl) (cln_optR hl h)
theorem cln_opt {l:List In} (hl:l.length≤1024) (h:ClnP l):ClnP (optL l):=cln_optN _ hl h
def clnB (fs:List (Int × Int)):Bool:=fs.all fun x=>!(decide (1≤x.1) && decide (x.1≤6))
theorem clean_iff {l:List In} (hl:l.length≤1024):(∀ c p,1≤c→c≤6→¬ BadP l c p) ↔ ClnP l:=by
 constructor
 ·intro h s hs
  refine⟨fun x hx=>?_,fun hge=>?_⟩
  ·have hlg:legalB x=true:=by
    cases hk:legalB x with
    | true=>rfl
    | false=>exact absurd (.inl ⟨s,x,hs,rfl,hx,.inl ⟨rfl,hk⟩⟩) (h 1 s.1 (by decide) (by decide))
   refine⟨hlg,List.eq_nil_iff_forall_not_mem.2 fun c hc=>?_⟩
   have hr:1≤c∧c≤6:=by
    unfold fnd at hc
    repeat' split at hc
    all_goals simp at hc
    all_goals omega
   exact h c s.1 hr.1 hr.2 (.inl ⟨s,x,hs,rfl,hx,.inr ⟨hlg,.inl hc⟩⟩)
  ·cases hb:s.2 with
   | false=>rfl
   | true =>
    exfalso
    cases hs with
    | start=>cases hb
    | step s0 n x hr hx hlg hn=>exact h 5 s0.1 (by decide) (by decide) (.inl ⟨s0,x,hr,rfl,hx,.inr ⟨hlg,.inr ⟨rfl,s,hn,hb,hge⟩⟩⟩)
 ·intro h c p h1 h6 hb
  rcases hb with⟨s,x,hr,_,hx,hk⟩ | hb | hb
  ·have hc:=(h s hr).1 x hx
   rcases hk with⟨_,hk⟩ | ⟨hlg,hk | ⟨_,n,hn,h2,h3⟩⟩
   ·rw[hc.1] at hk; cases hk
   ·rw[hc.2] at hk; cases hk
   ·have:=(h n (.step s n x hr hx hlg hn)).2 h3
    rw[h2] at this; cases this
  ·omega
  ·omega
theorem opt_reached {l:List In} (hl:l.length≤1024) (p:Int):¬ BadP (optL l) 8 p:=by
 intro hb
 have hol:=zj79 l
 rcases hb with⟨s,x,_,_,_,hk⟩ | ⟨hk,_⟩ | ⟨_,h0,h1,h2,h3⟩
 ·rcases hk with⟨hk,_⟩ | ⟨_,hk | ⟨hk,_⟩⟩
  ·omega
  ·unfold fnd at hk
   repeat' split at hk
   all_goals simp at hk
  ·omega
 ·omega
 ·have ht:=(optR_parts (optL_end l)).2.2.2
  have:=zj63 (l:=optL l) (by omega) p.toNat (by rw[ht]; omega)
  rw[ht] at this
  obtain⟨b,hb⟩:=zj1s.1 this
  rw[show ((p.toNat:Nat):Int)=p by omega] at hb
  cases b
  ·exact h2 hb
  ·exact h3 hb
theorem cln_found {l:List In} {fs:List (Int × Int)} (hl:l.length≤1024) (hf:FoundOk l fs):clnB fs=true ↔ ClnP l:=by
 rw[← clean_iff hl]
 unfold clnB
 rw[List.all_eq_true]
 constructor
 ·intro h c p h1 h6 hb
  have:=h (c,p) ((hf.mem c p).2 hb)
  simp[h1,h6] at this
 ·rintro h ⟨c,p⟩ hm
  have hb:=(hf.mem c p).1 hm
  by_cases h1:1≤c
  ·by_cases h6:c≤6
   ·exact absurd hb (h c p h1 h6)
   ·simp[h6]
  ·simp[h1]
open Nat (reduceAdd reduceLT)
set_option maxRecDepth 100000
def bad6 (x:Int × Int):Bool:=decide (1≤x.1) && decide (x.1≤6)
theorem clnB_any (fs:List (Int × Int)):clnB fs=!fs.any bad6:=by
 unfold clnB
 rw[List.all_eq_not_any_not]
 congr 2
 funext x
 simp[bad6]
theorem clean60 (x:Int × Int) (w:World):CallsV Tryz.prog 60 [.agg #[.int .i64 x.1,.int .i64 x.2]] w fun v w'=>v=.bool (bad6 x)∧Fresh w w':=by
 refine zj03 (keep:=K60) (nt:=11) (svs:=[.agg [.val (.int .i64 x.1),.val (.int .i64 x.2)]]) Tryz.func60 x60 n60 (by simp) (by simp[IsL,Is]) fun R hR=>?_
 (refine Y_go 600 ?_; dsimp only[go_sem,reduceAdd,Nat.reduceBEq])
 intro g
 have h1:∀ q:Bool,q=bad6 x→∀ F H,denAll H F [2]=some [.bool q]→RetG (cxOf Tryz.prog Tryz.f60 K60 T60 R) ⟨w,w.heap.size,[],11,[]⟩ { F:=F,H:=H }:=fun q hq F H hd =>
  zj02 (vs:=[.bool q]) r60 rfl hd fun W hW=>hR _ _ ⟨by rw[hq]; rfl,hW.fresh'⟩
 refine⟨fun h=>h1 _ ?_ _ _ rfl,fun h=>h1 _ ?_ _ _ rfl⟩
 ·have h:=of_decide_eq_true h
  unfold bad6; simp[h]
 ·have h:=of_decide_eq_false h
  unfold bad6; simp; omega
theorem index88 (l:List (Int × Int)) (A:Option Addr) (c:Nat) (w:World) (hl:l.length≤maxLen) (hA:RowAt w A (fsV l)) :
  CallsV Tryz.prog 88 [.slice A l.length c,.func (.func 60) #[] #[]] w fun v w'=>(∃ n:Int,v=.int .i64 n∧decide (n≥0)=l.any bad6)∧Fresh w w':=by
 refine zj03 (keep:=K88) (nt:=19) (svs:=[.val (.slice A l.length c),.val (.func (.func 60) #[] #[])]) Tryz.func88 x88 n88 (by simp) (by simp[IsL,Is]) fun R hR=>?_
 simp only[maxLen] at hl
 (refine Y_go 600 ?_; dsimp only[go_sem,reduceAdd,Nat.reduceBEq])
 refine zj09 (α:=Nat) (fun i=>i≤l.length∧(l.take i).any bad6=false) (fun _=>⟨w,w.heap.size,[],19,[]⟩) (fun i=>{ F:=[(0,.val (.slice A l.length c)),(1,.val (.func (.func 60) #[] #[])),(7,.val (.int .i64 (l.length:Int))),(8,.val (.int .i64 (i:Int)))],H:=[] }) (fun i=>l.length - i) (fun _=>rfl) ?start ?round
 case start =>
  intro a W rep
  exact⟨0,⟨Nat.zero_le _,by simp⟩,rep.lq⟩
 case round =>
  rintro i ⟨hi,ha⟩ I again
  have hi1:((i:Nat):Int).toNat=i:=by omega
  (refine Y_go 600 ?_; dsimp only[go_sem,Nat.reduceBEq])
  refine⟨fun hlt=>?_,fun hge=>?_⟩
  ·have hlt:i < l.length:=by have:=of_decide_eq_true hlt; omega
   have hz:l[i]? = some l[i]:=List.getElem?_eq_getElem hlt
   generalize l[i]=r at hz
   have sA:=hA.isSome (j:=i*2) (by rw[zj35]; omega)
   obtain⟨c0,c1⟩:=zj6a l i r hz
   rw[hi1]
   refine⟨⟨by omega,by omega,sA⟩,r.1,hA.cell c0,r.2,hA.cell c1,?_⟩
   have hst:(l.take (i+1)).any bad6=bad6 r:=by rw[List.take_add_one,hz,List.any_append,ha]; simp
   cases hk:bad6 r with
   | false =>
    refine zj07 (f:=60) (fst:=[]) (caps:=[]) (vs:=[.agg #[.int .i64 r.1,.int .i64 r.2]]) rfl rfl rfl (fun W hW=>clean60 r W) fun v hv=>⟨.bf,by rw[hv,hk]; simp[Is],?_⟩
    (refine Y_go 600 ?_; dsimp only[go_sem,Nat.reduceBEq])
    exact⟨((i+1:Nat):Int),ArOk.to (by omega) (by omega) (by omega),zj01 fun a W rep=>again (i+1) ⟨by omega,by rw[hst,hk]⟩ (by show _ - (i+1) < _ - i; omega) a W (rep.lq)⟩
   | true =>
    refine zj07 (f:=60) (fst:=[]) (caps:=[]) (vs:=[.agg #[.int .i64 r.1,.int .i64 r.2]]) rfl rfl rfl (fun W hW=>clean60 r W) fun v hv=>⟨.bt,by rw[hv,hk]; simp[Is],?_⟩
    (refine Y_go 600 ?_; dsimp only[go_sem,Nat.reduceBEq])
    refine zj02 (vs:=[.int .i64 (i:Int)]) r88 rfl rfl fun W hW=>hR _ _ ⟨⟨_,rfl,?_⟩,hW.fresh'⟩
    have:l.any bad6=true:=by
     rw[← List.take_append_drop (i+1) l,List.any_append,hst,hk]; simp
    rw[this]; simp
  ·have hie:i=l.length:=by have:=of_decide_eq_false hge; omega
   subst hie
   rw[List.take_length] at ha
   exact zj02 (vs:=[.int .i64 (-1)]) r88 rfl rfl fun W hW=>hR _ _ ⟨⟨_,rfl,by rw[ha]; rfl⟩,hW.fresh'⟩
theorem cont59 (l:List (Int × Int)) (A:Option Addr) (c:Nat) (w:World) (hl:l.length≤maxLen) (hA:RowAt w A (fsV l)) :
  CallsV Tryz.prog 59 [.slice A l.length c,.func (.func 60) #[] #[]] w fun v w'=>v=.bool (l.any bad6)∧Fresh w w':=by
 refine zj03 (keep:=K59) (nt:=9) (svs:=[.val (.slice A l.length c),.val (.func (.func 60) #[] #[])]) Tryz.func59 x59 n59 (by simp) (by simp[IsL,Is]) fun R hR=>?_
 (refine Y_go 600 ?_; dsimp only[go_sem,reduceAdd,Nat.reduceBEq])
 refine zj00 (vs:=[.slice A l.length c,.func (.func 60) #[] #[]]) rfl (fun W hW=>index88 l A c W hl (hA.keep hW.fresh')) fun v ⟨n,hv,hn⟩=>⟨.val (.int .i64 n),by rw[hv]; simp[Is],?_⟩
 (refine Y_go 600 ?_; dsimp only[go_sem,Nat.reduceBEq])
 refine zj02 (vs:=[.bool (l.any bad6)]) r59 rfl ?_ fun W hW=>hR _ _ ⟨rfl,hW.fresh'⟩
 show some [Value.bool (decide (n≥0))]=_
 rw[hn]
theorem clean28 (l:List (Int × Int)) (A:Option Addr) (c:Nat) (w:World) (hl:l.length≤maxLen) (hA:RowAt w A (fsV l)) :
  CallsV Tryz.prog 28 [.slice A l.length c] w fun v w'=>v=.bool (clnB l)∧Fresh w w':=by
 refine zj03 (keep:=K28) (nt:=6) (svs:=[.val (.slice A l.length c)]) Tryz.func28 x28 n28 (by simp) (by simp[IsL,Is]) fun R hR=>?_
 (refine Y_go 600 ?_; dsimp only[go_sem,reduceAdd,Nat.reduceBEq])
 refine zj00 (vs:=[.slice A l.length c,.func (.func 60) #[] #[]]) rfl (fun W hW=>cont59 l A c W hl (hA.keep hW.fresh')) fun v hv=>⟨.val (.bool (l.any bad6)),by rw[hv]; simp[Is],?_⟩
 (refine Y_go 600 ?_; dsimp only[go_sem,Nat.reduceBEq])
 refine zj02 (vs:=[.bool (clnB l)]) r28 rfl ?_ fun W hW=>hR _ _ ⟨rfl,hW.fresh'⟩
 show some [Value.bool (!(l.any bad6))]=_
 rw[clnB_any]
open Go.Asm
theorem law14 (A:Option Addr) (c:Nat) (l:List In) (w:World) (hG:ShAt w) (hT:TabAt w) (hLb:LibAt w) (hA:RowAt w A (cellsI l)) :
  CallsV Tryz.prog 14 [.slice A l.length c] w fun v w'=>Fresh w w'∧v=.bool true:=by
 refine zj03 (keep:=K14) (nt:=67) (svs:=[.val (.slice A l.length c)]) Tryz.func14 x14 n14 (by simp) (by simp[IsL,Is]) fun R hR=>?_
 (refine Y_go 600 ?_; dsimp only[go_sem,Nat.reduceAdd,Nat.reduceBEq])
 refine zj00 (vs:=[]) rfl (fun W hW=>alive25 W (hG.keep hW.fresh') (hT.keep hW.fresh') (hLb.keep hW.fresh')) fun v hv=>⟨.bt,by rw[hv]; simp[Is],?_⟩
 (refine Y_go 600 ?_; dsimp only[go_sem,Nat.reduceBEq])
 have done:∀ F H,denAll H F [2]=some [.bool true]→RetG (cxOf Tryz.prog Tryz.f14 K14 T14 R) ⟨w,w.heap.size,[],67,[]⟩ { F:=F,H:=H }:=fun F H hd =>
  zj02 (vs:=[.bool true]) r14 rfl hd fun W hW=>hR _ _ ⟨hW.fresh',rfl⟩
 refine⟨fun _=>done _ _ rfl,fun h1=>?_⟩
 clear done
 have hl:l.length≤100:=by have:=of_decide_eq_false h1; omega
 have hm1:=zj79 l
 have hcln:=cln_opt (l:=l) (by omega)
 have hrch:=opt_reached (l:=l) (by omega)
 have look:∀ (l:List In) (B:Option Addr) (bc:Nat) (W:World),l.length≤1024→RowAt W B (cellsI l)→ShAt W→CallsV Tryz.prog 22 [.slice B l.length bc] W fun v w'=>∃ (A:Option Addr) (c:Nat) (fs:List (Int × Int)),FoundOk l fs∧v=.tuple #[.slice A fs.length c,.int .i64 0]∧RowAt w' A (fsV fs)∧fs.length≤maxLen∧Fresh W w':=fun l B bc W h1 h2 h3=>(look22F l B bc W h1 h2 h3).mono fun v w' h=>by
  obtain⟨A,c,fs,h1,h2,h3,h4⟩:=h
  exact⟨A,c,fs,h1,h2,.of_own h3 rfl,ownsB_max h3,h4⟩
 refine zj1f (vs:=[.slice A l.length c]) rfl (R:=fun W v W'=>∃ (A:Option Addr) (c:Nat) (fs:List (Int × Int)),FoundOk l fs∧v=.tuple #[.slice A fs.length c,.int .i64 0]∧RowAt W' A (fsV fs)∧fs.length≤maxLen∧Fresh W W') (fun W hW=>look l A c W (by omega) (hA.keep hW.fresh') (hG.keep hW.fresh')) (fun W v W' h=>by obtain⟨_,_,_,_,_,_,_,h⟩:=h; exact h) fun W v W1 hW ⟨A1,c1,fs,hf,hv,k1,hfl,hk⟩ _=>?_
 subst hv
 have hw1:Fresh w W1:=Fresh.tr hW.fresh' hk
 refine⟨.tup [.val (.slice A1 fs.length c1),.val (.int .i64 0)],by simp[Is,IsL],?_⟩
 rw[show fps ([]:List SO)=[] from rfl]
 clear hk hW
 (refine Y_go 600 ?_; dsimp only[go_sem,Nat.reduceBEq])
 refine zj1f (vs:=[.slice A l.length c]) rfl (R:=fun W v W'=>∃ (B:Option Addr) (d:Nat),v=.tuple #[.slice B (optL l).length d,.int .i64 0]∧RowAt W' B (cellsI (optL l))∧Fresh W W') (fun W hW=>(zj6f l (by omega) A c W (hG.keep (Fresh.tr hw1 hW.fresh')) (hA.keep (Fresh.tr hw1 hW.fresh'))).mono fun v w' h=>by
  obtain⟨hk,s,hv,hs⟩:=h
  rw[zj2a (by omega)] at hv
  rw[zj23 (by omega)] at hs
  obtain⟨A,c,rfl⟩:=owns_slc hs
  exact⟨A,c,hv,.of_own hs rfl,hk⟩) (fun W v W' h=>by obtain⟨_,_,_,_,h⟩:=h; exact h) fun W v W2 hW ⟨B,bc,hv,kB,hk⟩ _=>?_
 subst hv
 have k1:=k1.keep (Fresh.tr hW.fresh' hk)
 have hw2:Fresh w W2:=Fresh.tr hw1 (Fresh.tr hW.fresh' hk)
 refine⟨.tup [.val (.slice B (optL l).length bc),.val (.int .i64 0)],by simp[Is,IsL],?_⟩
 rw[show fps ([]:List SO)=[] from rfl]
 clear hk hW
 generalize optL l=m at *
 (refine Y_go 600 ?_; dsimp only[go_sem,Nat.reduceBEq])
 refine zj1f (vs:=[.slice B m.length bc]) rfl (R:=fun W v W'=>∃ (A:Option Addr) (c:Nat) (fs:List (Int × Int)),FoundOk m fs∧v=.tuple #[.slice A fs.length c,.int .i64 0]∧RowAt W' A (fsV fs)∧fs.length≤maxLen∧Fresh W W') (fun W hW=>look m B bc W (by omega) (kB.keep hW.fresh') (hG.keep (Fresh.tr hw2 hW.fresh'))) (fun W v W' h=>by obtain⟨_,_,_,_,_,_,_,h⟩:=h; exact h) fun W v W3 hW ⟨A3,c3,gs,hg,hv,k3,hgl,hk⟩ _=>?_
 subst hv
 have k1:=k1.keep (Fresh.tr hW.fresh' hk)
 have hw3:Fresh w W3:=Fresh.tr hw2 (Fresh.tr hW.fresh' hk)
 refine⟨.tup [.val (.slice A3 gs.length c3),.val (.int .i64 0)],by simp[Is,IsL],?_⟩
 rw[show fps ([]:List SO)=[] from rfl]
 clear hk hW
 have hcc:clnB fs=true→clnB gs=true:=fun h=>(cln_found (by omega) hg).2 (hcln ((cln_found (by omega) hf).1 h))
 simp only[maxLen] at hgl
 have hno:∀ x ∈ gs,x.1 ≠ 8:=fun x hx h8=>hrch x.2 ((hg.mem 8 x.2).1 (by rw[← h8]; exact hx))
 have rest:∀ F0,(∀ a W,Rep ⟨W3,W3.heap.size,[],67,[]⟩ { F:=F0,H:=[] } a W→Rep ⟨W3,W3.heap.size,[],67,[]⟩ { F:=[(3,.bt),(8,.val (.slice A3 gs.length c3)),(55,.val (.int .i64 (gs.length:Int))),(56,.val (.int .i64 ((0:Nat):Int)))],H:=[] } a W) →
   G (cxOf Tryz.prog Tryz.f14 K14 T14 R) ⟨W3,W3.heap.size,[],67,[]⟩ [.code (.loop (.ref 6)),.blk 0,.code (.ref 7)] { F:=F0,H:=[] }:=by
  intro F0 hle
  refine zj09 (α:=Nat) (fun i=>i≤gs.length) (fun _=>⟨W3,W3.heap.size,[],67,[]⟩) (fun i=>{ F:=[(3,.bt),(8,.val (.slice A3 gs.length c3)),(55,.val (.int .i64 (gs.length:Int))),(56,.val (.int .i64 (i:Int)))],H:=[] }) (fun i=>gs.length - i) (fun _=>rfl) ?start ?round
  case start =>
   intro a W rep
   exact⟨0,Nat.zero_le _,hle a W rep⟩
  case round =>
   intro i hi I again
   have hi:i≤gs.length:=hi
   have hi1:((i:Nat):Int).toNat=i:=by omega
   (refine Y_go 600 ?_; dsimp only[go_sem,Nat.reduceBEq])
   refine⟨fun hlt=>?_,fun hge=>?_⟩
   ·have hlt:i < gs.length:=by have:=of_decide_eq_true hlt; omega
    have hz:gs[i]? = some gs[i]:=List.getElem?_eq_getElem hlt
    have hn8:=hno _ (List.getElem_mem hlt)
    generalize gs[i]=r at hz hn8
    have sA:=k3.isSome (j:=i*2) (by rw[zj35]; omega)
    obtain⟨q0,q1⟩:=zj6a gs i r hz
    rw[hi1]
    refine⟨⟨by omega,by omega,sA⟩,sA,r.1,k3.cell q0,fun h=>absurd (by simpa using h) hn8,fun _=>?_⟩
    exact⟨((i+1:Nat):Int),ArOk.to (by omega) (by omega) (by omega),zj01 fun a W rep=>again (i+1) (by omega) (by omega) a W (rep.lq)⟩
   ·exact zj02 (vs:=[.bool true]) r14 rfl rfl fun W hW=>hR _ _ ⟨Fresh.tr hw3 hW.fresh',rfl⟩
 (refine Y_go 600 ?_; dsimp only[go_sem,Nat.reduceBEq])
 refine⟨fun h=>absurd h (by decide),fun _=>⟨fun h=>absurd h (by decide),fun _=>⟨fun h=>absurd h (by decide),fun _=>?_⟩⟩⟩
 cases hc1:clnB fs with
 | false =>
  refine zj00 (vs:=[.slice A1 fs.length c1]) rfl (fun W hW=>clean28 fs A1 c1 W hfl (k1.keep hW.fresh')) fun v hv=>⟨.bf,by rw[hv,hc1]; simp[Is],?_⟩
  (refine Y_go 600 ?_; dsimp only[go_sem,Nat.reduceBEq])
  exact rest _ fun a W rep=>rep.lq
 | true =>
  refine zj00 (vs:=[.slice A1 fs.length c1]) rfl (fun W hW=>clean28 fs A1 c1 W hfl (k1.keep hW.fresh')) fun v hv=>⟨.bt,by rw[hv,hc1]; simp[Is],?_⟩
  (refine Y_go 600 ?_; dsimp only[go_sem,Nat.reduceBEq])
  refine zj00 (vs:=[.slice A3 gs.length c3]) rfl (fun W hW=>clean28 gs A3 c3 W (by simpa only[maxLen] using hgl) (k3.keep hW.fresh')) fun v hv=>⟨.bt,by rw[hv,hcc hc1]; simp[Is],?_⟩
  (refine Y_go 600 ?_; dsimp only[go_sem,Nat.reduceBEq])
  exact rest _ fun a W rep=>rep.lq
end Go.Proofs.YtlbiogokpadaoaaGreatDoor
