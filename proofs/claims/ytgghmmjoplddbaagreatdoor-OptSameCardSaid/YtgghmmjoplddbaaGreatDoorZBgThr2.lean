/- The document's Thread. -/
import Derived.Test.YtgghmmjoplddbaaGreatDoorZBgIsa1
set_option linter.unusedSimpArgs false
set_option linter.unusedVariables false
set_option linter.unnecessarySimpa false
namespace Go.Proofs.YtgghmmjoplddbaaGreatDoor
open Go Go.Sx Go.Isa
set_option maxRecDepth 100000
structure Th1 where
 led:List Int
 p:Int
 A:Option Addr
 c:Nat
theorem thrI_no {l:List In} {x:In} (h:goK x=0):thrI l x=x:=by unfold thrI; rw[if_pos h]
theorem thrI_yes {l:List In} {x:In} (h:goK x ≠ 0):thrI l x={ x with imm:=thr l l.length [] x.imm }:=by unfold thrI; rw[if_neg h]
open Nat (reduceAdd reduceLT)
theorem thread56 (A:Option Addr) (c:Nat) (l:List In) (w:World) (hG:ShAt w) (hA:RowAt w A (cellsI l)) (hl:l.length≤2000) :
  CallsV Tryz.prog 36 [.slice A l.length c] w fun v w'=>Fresh w w'∧((l.length≤1024∧∃ s,v=.tuple #[s,.int .i64 0]∧World.ownsB w' w.heap.size 47 5 s l.length (cellsI (zj0a l)))∨(1024 < l.length∧v=.tuple #[.slice none 0 0,.int .i64 2])):=by
 refine zj03 (keep:=K36) (nt:=83) (svs:=[.val (.slice A l.length c)]) Tryz.func36 x36 n36 (by simp) (by simp[IsL,Is]) fun R hR=>?_
 (refine Y_go 600 ?_; dsimp only[go_sem,reduceAdd,Nat.reduceBEq])
 refine⟨fun h=>?_,fun h=>?_⟩
 ·have h:=of_decide_eq_true h
  exact zj01 (vs:=[_,_]) r36 rfl rfl fun W hW=>hR _ _ ⟨hW.fresh',.inr ⟨by omega,rfl⟩⟩
 have h1024:l.length≤1024:=by have:=of_decide_eq_false h; omega
 refine zj1d (vs:=[.slice A l.length c]) rfl (fun W hW=>clone82 A c l W (hA.keep hW.fresh') (by omega)) fun A1 c1=>?_
 (refine Y_go 600 ?_; dsimp only[go_sem,Nat.reduceBEq])
 refine zj08 (α:=Nat) (fun i=>i≤l.length) (fun _=>⟨w,w.heap.size,[],83,[]⟩)
  (fun i=>{ F:=[(0,.val (.slice A l.length c)),(4,.own 0 0),(20,.val (.slice A l.length c)),(21,.val (.int .i64 l.length)),(22,.val (.int .i64 i))],H:=[.own 47 0 5 A1 l.length c1 (cellsI (mixL (thrI l) l i))] }) (fun i=>l.length - i) (fun _=>rfl) ?start ?round
 case start =>
  intro a W rep
  refine⟨0,Nat.zero_le _,rep.le ?_ ?_⟩ <;> (simp only[go_sem,lk,Nat.reduceBEq,reduceLT,reduceAdd] <;> try simp)
  simp[mixL_zero]
 case round =>
  intro i hi I hI
  have hi:i≤l.length:=hi
  (refine Y_go 600 ?_; dsimp only[go_sem,Nat.reduceBEq,reduceAdd])
  refine⟨fun h=>?_,fun h=>?_⟩
  rotate_left
  ·have hil:i=l.length:=by have:=of_decide_eq_false h; omega
   subst hil
   refine zj01 (vs:=[_,_]) r36 rfl rfl fun W hW=>hR _ _ ⟨hW.fresh',.inl ⟨h1024,_,rfl,?_⟩⟩
   have:=hW.owns (i:=0) rfl
   rw[mixL_all] at this; exact this
  have hlt:i < l.length:=by have:=of_decide_eq_true h; omega
  have next:∀ F,leF 1 F [(0,.val (.slice A l.length c)),(4,.own 0 0),(20,.val (.slice A l.length c)),(21,.val (.int .i64 l.length)),(22,.val (.int .i64 ((i:Int)+1)))]→∀ H,(∃ r,H=SO.own 47 0 5 A1 l.length c1 (cellsI (mixL (thrI l) l (i+1))) :: r)→G (cxOf Tryz.prog Tryz.f36 K36 T36 R) ⟨w,w.heap.size,[],83,[]⟩ [.lend I] { F:=F,H:=H }:=by
   rintro F hF H ⟨r,rfl⟩
   refine zj02 fun a W rep=>hI (i+1) (by show i+1≤l.length; omega) (by show l.length - (i+1) < l.length - i; omega) a W (rep.le ?_ ?_)
   ·exact hF
   ·(simp only[go_sem,lk,Nat.reduceBEq,reduceLT,reduceAdd] <;> try simp)
  refine⟨⟨by omega,by omega,someI hA hlt⟩,_,cellI hA hlt (k:=0) rfl,_,cellI hA hlt (k:=1) rfl,_,cellI hA hlt (k:=2) rfl,_,cellI hA hlt (k:=3) rfl,_,cellI hA hlt (k:=4) rfl,fun g=>?_⟩
  refine zj00 (vs:=[In.val l[i]]) rfl (fun W hW=>goes84 l[i] W (hG.keep hW.fresh')) fun v hv=>⟨.tup [.val (.bool (goK l[i] == 1)),.val (.bool (goK l[i] == 2))],by rw[hv]; simp[Is,IsL],?_⟩
  (refine Y_go 600 ?_; dsimp only[go_sem,Nat.reduceBEq,reduceAdd])
  have wr:∀ q:Int,setn (cellsI (mixL (thrI l) l i)) (i*5+4) (.int .i64 q)=cellsI ((mixL (thrI l) l i).set i { l[i] with imm:=q }):=fun q =>
   cellsI_set _ i 4 (by rw[zj7e]; exact hlt) _ _ (by omega) (by rw[mixL_get _ _ hlt]; rfl)
  have wl:(cellsI (mixL (thrI l) l i)).length=l.length*5:=by rw[zj0o,zj7e]
  have raw:goK l[i] ≠ 0→∀ g1 F,leF 3 F [(0,.val (.slice A l.length c)),(4,.own 0 0),(5,.val (.int .i64 i)),(9,.mp 2),(10,.val (.int .i64 l[i].imm)),(20,.val (.slice A l.length c)),(21,.val (.int .i64 l.length)),(22,.val (.int .i64 i))] →
    G (cxOf Tryz.prog Tryz.f36 K36 T36 R) ⟨w,w.heap.size,[],83,[]⟩ [.code (XC.ref 6).loop,.blk 2,.code (.ref 7),.blk 1,.code (match T36n13 with | .seq _ b=>b | _=>.skip),.lend I,.blk 0,.code (.ref 16)]
     { F:=F,H:=[.own 47 0 5 A1 l.length c1 (cellsI (mixL (thrI l) l i)),.cells g 47 (In.sv l[i]),.map g1 []] }:=by
   intro hk g1 F hF
   have him:=zj1r hk
   have tgt:thrI l l[i]={ l[i] with imm:=thr l l.length [] l[i].imm }:=thrI_yes hk
   have hi5:(i:Int).toNat*5+4+1≤(cellsI (mixL (thrI l) l i)).length:=by rw[wl]; omega
   refine zj08 (α:=List Int × Int) (fun x=>LedOk l x.1 x.2∧thr l l.length x.1 x.2=thr l l.length [] l[i].imm) (fun _=>⟨w,w.heap.size,[],83,[]⟩)
    (fun x=>{ F:=[(0,.val (.slice A l.length c)),(4,.own 0 0),(5,.val (.int .i64 i)),(9,.mp 2),(10,.val (.int .i64 x.2)),(20,.val (.slice A l.length c)),(21,.val (.int .i64 l.length)),(22,.val (.int .i64 i))],H:=[.own 47 0 5 A1 l.length c1 (cellsI (mixL (thrI l) l i)),.cells g 47 (In.sv l[i]),.map g1 (setM x.1.reverse)] }) (fun x=>l.length - x.1.length) (fun _=>rfl) ?start2 ?round2
   case start2 =>
    intro a W rep
    refine⟨([],l[i].imm),⟨⟨List.nodup_nil,by simp,by simp,him.1⟩,rfl⟩,rep.le ?_ ?_⟩
    ·exact hF
    ·(simp only[go_sem,lk,Nat.reduceBEq,reduceLT,reduceAdd] <;> try simp)
     simp[In.sv,scp,scpL,setM]
   case round2 =>
    rintro ⟨led,p⟩ ⟨hled,hthr⟩ I2 hI2
    have hled:LedOk l led p:=hled
    have hthr:thr l l.length led p=thr l l.length [] l[i].imm:=hthr
    have hp0:=hled.p0
    have fin:thr l l.length [] l[i].imm=p→mixL (thrI l) l (i+1)=(mixL (thrI l) l i).set i { l[i] with imm:=p }:=fun e=>by
     rw[mixL_succ _ _ hlt,tgt,e]
    have endg:thr l l.length [] l[i].imm=p→∀ F,leF 1 F [(0,.val (.slice A l.length c)),(4,.own 0 0),(20,.val (.slice A l.length c)),(21,.val (.int .i64 l.length)),(22,.val (.int .i64 ((i:Int)+1)))]→∀ r,G (cxOf Tryz.prog Tryz.f36 K36 T36 R) ⟨w,w.heap.size,[],83,[]⟩ [.lend I] { F:=F,H:=.own 47 0 5 A1 l.length c1 (setn (cellsI (mixL (thrI l) l i)) ((i:Int).toNat*5+4) (.int .i64 p)) :: r }:=fun e F hF r =>
     next F hF _ ⟨r,by rw[fin e,← wr]; rfl⟩
    (refine Y_go 600 ?_; dsimp only[go_sem,In.sv,Nat.reduceBEq])
    refine⟨fun h=>?_,fun h=>?_⟩
    rotate_left
    ·have h:=of_decide_eq_false h
     have hno:l[p.toNat]? = none:=by rw[List.getElem?_eq_none_iff]; omega
     rw[thr_end hno] at hthr
     exact⟨⟨by omega,by omega⟩,hi5,_,.add64 (by omega) (by omega),endg hthr.symm _ (by (simp only[go_sem,lk,Nat.reduceBEq,reduceLT,reduceAdd] <;> try simp)) _⟩
    have h:=of_decide_eq_true h
    have hpl:p.toNat < l.length:=by omega
    have hx:l[p.toNat]? = some l[p.toNat]:=List.getElem?_eq_getElem hpl
    have hnr:p ∉ led.reverse:=fun q=>hled.no (List.mem_reverse.1 q)
    have hput:mput (setM led.reverse) (.int .i64 p) (.agg #[])=setM (p :: led).reverse:=by rw[setM_put _ _ hnr]; simp
    have stop:¬ (goK l[p.toNat]=1∧l[p.toNat].imm ∉ p :: led)→thr l l.length [] l[i].imm=p:=fun h=>by rw[← hthr,zj5e hx h]
    refine⟨setM_keys _,⟨by omega,by omega,someI hA hpl⟩,_,cellI hA hpl (k:=0) rfl,_,cellI hA hpl (k:=1) rfl,_,cellI hA hpl (k:=2) rfl,_,cellI hA hpl (k:=3) rfl,_,cellI hA hpl (k:=4) rfl,?_⟩
    refine zj00 (vs:=[In.val l[p.toNat]]) rfl (fun W hW=>goes84 _ W (hG.keep hW.fresh')) fun v hv=>⟨.tup [.val (.bool (goK l[p.toNat] == 1)),.val (.bool (goK l[p.toNat] == 2))],by rw[hv]; simp[Is,IsL],?_⟩
    (refine Y_go 600 ?_; dsimp only[go_sem,Nat.reduceBEq,reduceAdd])
    refine⟨⟨by omega,by omega,someI hA hpl⟩,someI hA hpl,_,cellI hA hpl (k:=4) rfl,by rw[hput]; exact setM_keys _,_,rfl,.agg [],?_,?_⟩
    ·rw[hput,zj7d]; split <;> rfl
    have hmem:(mget (setM (p :: led).reverse) (.int .i64 l[p.toNat].imm)).isSome=decide (l[p.toNat].imm ∈ p :: led):=by
     rw[zj7d]
     simp only[List.mem_reverse]
     split <;> simp[*]
    rw[hput,hmem]
    dsimp only[go_sem,Nat.reduceBEq]
    refine fun g2=>⟨fun h2=>?_,fun h2=>⟨fun h3=>?_,fun h3=>?_⟩⟩
    ·have h2:goK l[p.toNat] ≠ 1:=by simpa using h2
     exact⟨⟨by omega,by omega⟩,hi5,_,.add64 (by omega) (by omega),endg (stop fun q=>h2 q.1) _ (by (simp only[go_sem,lk,Nat.reduceBEq,reduceLT,reduceAdd] <;> try simp)) _⟩
    ·have h3:=of_decide_eq_true h3
     exact⟨⟨by omega,by omega⟩,hi5,_,.add64 (by omega) (by omega),endg (stop fun q=>q.2 h3) _ (by (simp only[go_sem,lk,Nat.reduceBEq,reduceLT,reduceAdd] <;> try simp)) _⟩
    ·have h2:goK l[p.toNat]=1:=by simpa using h2
     have h3:=of_decide_eq_false h3
     have him2:=zj1r (x:=l[p.toNat]) (by rw[h2]; decide)
     have hst:=hled.step (by omega) h3 him2.1
     refine⟨⟨by omega,by omega,someI hA hpl⟩,someI hA hpl,_,cellI hA hpl (k:=4) rfl,zj02 fun a W rep=>hI2 (p :: led,l[p.toNat].imm) ⟨hst,?_⟩ ?_ a W (rep.le ?_ ?_)⟩
     ·show thr l l.length (p :: led) l[p.toNat].imm=_
      rw[← hthr,thr_all hled hx ⟨h2,h3⟩]
     ·have:=hst.len
      show l.length - (p :: led).length < l.length - led.length
      simp only[List.length_cons] at this ⊢; omega
     ·(simp only[go_sem,lk,Nat.reduceBEq,reduceLT,reduceAdd] <;> try simp)
     ·simp only[In.sv]; (simp only[go_sem,lk,Nat.reduceBEq,reduceLT,reduceAdd] <;> try simp)
  refine⟨fun h1=>⟨fun h2=>?_,fun h2 g1=>?_⟩,fun h1 g1=>?_⟩
  ·have h1:goK l[i] ≠ 1:=by simpa using h1
   have h2:goK l[i] ≠ 2:=by simpa using h2
   have hz:goK l[i]=0:=by
    unfold goK at h1 h2 ⊢
    split
    ·split
     ·simp_all
     ·split
      ·simp_all
      ·rfl
    ·rfl
   refine⟨_,.add64 (by omega) (by omega),next _ (by (simp only[go_sem,lk,Nat.reduceBEq,reduceLT,reduceAdd] <;> try simp)) _ ⟨[.cells g 47 (In.sv l[i])],?_⟩⟩
   ·rw[mixL_same _ _ hlt (thrI_no hz)]; rfl
  ·have h2:goK l[i]=2:=by simpa using h2
   exact raw (by rw[h2]; decide) g1 _ (by (simp only[go_sem,lk,Nat.reduceBEq,reduceLT,reduceAdd] <;> try simp))
  ·have h1:goK l[i]=1:=by simpa using h1
   exact raw (by rw[h1]; decide) g1 _ (by (simp only[go_sem,lk,Nat.reduceBEq,reduceLT,reduceAdd] <;> try simp))
end Go.Proofs.YtgghmmjoplddbaaGreatDoor
