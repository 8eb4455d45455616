/- The document's Thread. -/
import Derived.Test.YtlbiogokpadaoaaGreatDoorBgIsa3
set_option linter.unusedSimpArgs false
set_option linter.unusedVariables false
set_option linter.unnecessarySimpa false
namespace Go.Proofs.YtlbiogokpadaoaaGreatDoor
open Go Go.Sx Go.Isa
open Nat (reduceAdd reduceLT)
set_option maxRecDepth 100000
structure Th1 where
 led:List Int
 p:Int
 A:Option Addr
 c:Nat
theorem intsV_get {l:List Int} {i:Nat} (h:i < l.length):(intsV l)[i]? = some (.int .i64 l[i]):=by simp[intsV,h]
theorem zj37 (p:Int) (led:List Int):(intsV (p :: led).reverse)[led.length]? = some (.int .i64 p):=by
 simp[intsV]
theorem thrI_no {l:List In} {x:In} (h:goK x=0):thrI l x=x:=by unfold thrI; rw[if_pos h]
theorem thrI_yes {l:List In} {x:In} (h:goK x ≠ 0):thrI l x={ x with imm:=thr l l.length [] x.imm }:=by unfold thrI; rw[if_neg h]
theorem thread62 (A:Option Addr) (c:Nat) (l:List In) (w:World) (hA:RowAt w A (cellsI l)) (hl:l.length≤2000) :
  CallsV Tryz.prog 62 [.slice A l.length c] w fun v w'=>World.ownsB w' w.heap.size 41 5 v l.length (cellsI (zj0a l))∧Fresh w w':=by
 refine zj03 (keep:=K62) (nt:=97) (svs:=[.val (.slice A l.length c)]) Tryz.func62 x62 n62 (by simp) (by simp[IsL,Is]) fun R hR=>?_
 (refine Y_go 600 ?_; dsimp only[go_sem,reduceAdd,Nat.reduceBEq])
 refine zj16 (vs:=[.slice A l.length c]) rfl (fun W hW=>twin29 A c l W (hA.keep hW.fresh') (by omega)) fun A1 c1=>?_
 (refine Y_go 600 ?_; dsimp only[go_sem,Nat.reduceBEq])
 refine zj04 (α:=Nat) (fun i=>i≤l.length) (fun _=>⟨w,w.heap.size,[],97,[]⟩)
  (fun i=>{ F:=[(0,.val (.slice A l.length c)),(2,.val (.slice none 0 0)),(3,.own 0 0),(4,.val (.int .i64 i))],H:=[.own 41 0 5 A1 l.length c1 (cellsI (mixL (thrI l) l i))] }) (fun i=>l.length - i) (fun _=>rfl) ?start ?round
 case start =>
  intro a W rep
  refine⟨0,Nat.zero_le _,rep.le ?_ ?_⟩ <;> (simp only[go_sem,lk,Nat.reduceBEq,reduceLT,reduceAdd] <;> try simp)
  simp[mixL_zero]
 case round =>
  intro i hi I hI
  have hi:i≤l.length:=hi
  (refine Y_go 600 ?_; dsimp only[go_sem,Nat.reduceBEq])
  refine⟨fun h=>?_,fun h=>?_⟩
  rotate_left
  ·have hil:i=l.length:=by have:=of_decide_eq_false h; omega
   subst hil
   refine zj02 (vs:=[_]) r62 rfl rfl fun W hW=>hR _ _ ⟨?_,hW.fresh'⟩
   have:=hW.owns (i:=0) rfl
   rw[mixL_all] at this; exact this
  have hlt:i < l.length:=by have:=of_decide_eq_true h; omega
  have next:∀ F,leF 1 F [(0,.val (.slice A l.length c)),(2,.val (.slice none 0 0)),(3,.own 0 0),(4,.val (.int .i64 ((i:Int)+1)))]→∀ H,(∃ r,H=SO.own 41 0 5 A1 l.length c1 (cellsI (mixL (thrI l) l (i+1))) :: r)→G (cxOf Tryz.prog Tryz.f62 K62 T62 R) ⟨w,w.heap.size,[],97,[]⟩ [.lend I] { F:=F,H:=H }:=by
   rintro F hF H ⟨r,rfl⟩
   refine zj00 fun a W rep=>hI (i+1) (by show i+1≤l.length; omega) (by show l.length - (i+1) < l.length - i; omega) a W (rep.le ?_ ?_)
   ·exact hF
   ·(simp only[go_sem,lk,Nat.reduceBEq,reduceLT,reduceAdd] <;> try simp)
  refine⟨⟨by omega,by omega,someI hA hlt⟩,_,cellI hA hlt (k:=0) rfl,_,cellI hA hlt (k:=1) rfl,_,cellI hA hlt (k:=2) rfl,_,cellI hA hlt (k:=3) rfl,_,cellI hA hlt (k:=4) rfl,?_⟩
  refine zj01 (vs:=[In.val l[i]]) rfl (fun W hW=>goes93 l[i] W) fun v hv=>⟨.val (.int .i64 (goK l[i])),by rw[hv]; simp[Is],?_⟩
  (refine Y_go 600 ?_; dsimp only[go_sem,Nat.reduceBEq,Nat.reduceMul,reduceAdd])
  refine⟨fun hk=>?_,fun hk=>?_⟩
  ·have hk:goK l[i]=0:=by simpa using hk
   refine⟨_,.add64 (by omega) (by omega),next _ (by (simp only[go_sem,lk,Nat.reduceBEq,reduceLT,reduceAdd] <;> try simp)) _ ⟨[],?_⟩⟩
   rw[mixL_same _ _ hlt (thrI_no hk)]
  ·have hk:goK l[i] ≠ 0:=by simpa using hk
   have him:=zj1q hk
   refine⟨⟨by omega,by omega,someI hA hlt⟩,someI hA hlt,_,cellI hA hlt (k:=4) rfl,fun g=>?_⟩
   have wr:∀ q:Int,setn (cellsI (mixL (thrI l) l i)) (i*5+4) (.int .i64 q)=cellsI ((mixL (thrI l) l i).set i { l[i] with imm:=q }):=fun q =>
    zj43 _ i 4 (by rw[zj44]; exact hlt) _ _ (by omega) (by rw[zj7d _ _ hlt]; rfl)
   have wl:(cellsI (mixL (thrI l) l i)).length=l.length*5:=by rw[zj06,zj44]
   have tgt:thrI l l[i]={ l[i] with imm:=thr l l.length [] l[i].imm }:=thrI_yes hk
   refine zj04 (α:=Th1) (fun x=>x.led.length≤l.length∧LedOk l x.led x.p∧x.p≤1024∧thr l (l.length - x.led.length) x.led x.p=thr l l.length [] l[i].imm) (fun _=>⟨w,w.heap.size,[],97,[]⟩)
    (fun x=>{ F:=[(0,.val (.slice A l.length c)),(2,.val (.slice none 0 0)),(3,.own 0 0),(4,.val (.int .i64 i)),(5,.val (.int .i64 (goK l[i]))),(6,.own 2 0),(7,.val (.int .i64 x.led.length))],H:=[.own 41 0 5 A1 l.length c1 (cellsI (mixL (thrI l) l i)),.gone g,.own 3 0 1 x.A (x.led.length+1) x.c (intsV (x.p :: x.led).reverse)] }) (fun x=>l.length - x.led.length) (fun _=>rfl) ?start2 ?round2
   case start2 =>
    intro a W rep
    refine⟨⟨[],l[i].imm,some ⟨g,0,none⟩,1⟩,⟨Nat.zero_le _,⟨List.nodup_nil,by simp,by simp,him.1⟩,him.2,rfl⟩,(rep.ownC (sz:=1) 6 rfl rfl (xs:=intsV [l[i].imm]) rfl rfl (by simp only[maxLen]; omega)).le ?_ ?_⟩
    ·(simp only[go_sem,lk,Nat.reduceBEq,reduceLT,reduceAdd] <;> try simp)
    ·(simp only[go_sem,lk,Nat.reduceBEq,reduceLT,reduceAdd] <;> try simp)
   case round2 =>
    rintro ⟨led,p,A2,c2⟩ ⟨hr,hled,hp1,hthr⟩ I2 hI2
    have hr:led.length≤l.length:=hr
    have hled:LedOk l led p:=hled
    have hp1:p≤1024:=hp1
    have hthr:thr l (l.length - led.length) led p=thr l l.length [] l[i].imm:=hthr
    (refine Y_go 600 ?_; dsimp only[go_sem,Nat.reduceBEq])
    have fin:thr l l.length [] l[i].imm=p→mixL (thrI l) l (i+1)=(mixL (thrI l) l i).set i { l[i] with imm:=p }:=fun e=>by
     rw[zj5p _ _ hlt,tgt,e]
    have hsub:((led.length+1:Nat) - 1:Int).toNat*1=led.length:=by omega
    have hi5:(i:Int).toNat*5+4+1≤(cellsI (mixL (thrI l) l i)).length:=by rw[wl]; omega
    have endg:thr l l.length [] l[i].imm=p→∀ F,leF 1 F [(0,.val (.slice A l.length c)),(2,.val (.slice none 0 0)),(3,.own 0 0),(4,.val (.int .i64 ((i:Int)+1)))]→G (cxOf Tryz.prog Tryz.f62 K62 T62 R) ⟨w,w.heap.size,[],97,[]⟩ [.lend I] { F:=F,H:=[.own 41 0 5 A1 l.length c1 (setn (cellsI (mixL (thrI l) l i)) ((i:Int).toNat*5+4) (.int .i64 p)),.gone g,.own 3 0 1 A2 (led.length+1) c2 (intsV (p :: led).reverse)] }:=fun e F hF =>
     next F hF _ ⟨[.gone g,.own 3 0 1 A2 (led.length+1) c2 (intsV (p :: led).reverse)],by rw[fin e,← wr]; rfl⟩
    refine⟨fun h=>?_,fun h=>?_⟩
    rotate_left
    ·have hlen:led.length=l.length:=by have:=of_decide_eq_false h; omega
     rw[hlen,Nat.sub_self] at hthr
     refine⟨_,.toSub rfl (by omega) (by omega),⟨by omega,by omega⟩,p,by rw[hsub]; exact zj37 p led,⟨by omega,by omega⟩,hi5,_,.add64 (by omega) (by omega),endg hthr.symm _ (by (simp only[go_sem,lk,Nat.reduceBEq,reduceLT,reduceAdd] <;> try simp))⟩
    ·have hlen:led.length < l.length:=by have:=of_decide_eq_true h; omega
     obtain⟨m,hm⟩:∃ m,l.length - led.length=m+1:=⟨l.length - led.length - 1,by omega⟩
     rw[hm] at hthr
     refine⟨_,.toSub rfl (by omega) (by omega),⟨by omega,by omega⟩,p,by rw[hsub]; exact zj37 p led,⟨fun hp=>?_,fun hp=>?_⟩⟩
     ·have hp:=of_decide_eq_true hp
      have hno:l[p.toNat]? = none:=by rw[List.getElem?_eq_none_iff]; omega
      rw[thr_end hno] at hthr
      refine⟨_,.toSub rfl (by omega) (by omega),⟨by omega,by omega⟩,p,by rw[hsub]; exact zj37 p led,⟨by omega,by omega⟩,hi5,_,.add64 (by omega) (by omega),endg hthr.symm _ (by (simp only[go_sem,lk,Nat.reduceBEq,reduceLT,reduceAdd] <;> try simp))⟩
     ·have hp:=of_decide_eq_false hp
      have hp0:=hled.p0
      have hpl:p.toNat < l.length:=by omega
      have hx:l[p.toNat]? = some l[p.toNat]:=List.getElem?_eq_getElem hpl
      refine⟨⟨by omega,by omega,someI hA hpl⟩,_,cellI hA hpl (k:=0) rfl,_,cellI hA hpl (k:=1) rfl,_,cellI hA hpl (k:=2) rfl,_,cellI hA hpl (k:=3) rfl,_,cellI hA hpl (k:=4) rfl,?_⟩
      refine zj01 (vs:=[In.val l[p.toNat]]) rfl (fun W hW=>goes93 _ W) fun v hv=>⟨.val (.int .i64 (goK l[p.toNat])),by rw[hv]; simp[Is],?_⟩
      (refine Y_go 600 ?_; dsimp only[go_sem,Nat.reduceBEq])
      have pick:∀ b,b=decide (l[p.toNat].imm ∈ (p :: led).reverse)→∀ F,leF 3 F [(0,.val (.slice A l.length c)),(2,.val (.slice none 0 0)),(3,.own 0 0),(4,.val (.int .i64 i)),(5,.val (.int .i64 (goK l[i]))),(6,.own 2 0),(7,.val (.int .i64 led.length))]→True:=fun _ _ _ _=>trivial
      have stop:¬ (goK l[p.toNat]=1∧l[p.toNat].imm ∉ p :: led)→thr l l.length [] l[i].imm=p:=fun h=>by rw[← hthr,zj42 hx h]
      refine zj04 (α:=Nat × Bool) (fun x=>x.1≤led.length+1∧x.2=decide (l[p.toNat].imm ∈ (p :: led).reverse.take x.1)) (fun _=>⟨w,w.heap.size,[],97,[]⟩)
       (fun x=>{ F:=[(0,.val (.slice A l.length c)),(2,.val (.slice none 0 0)),(3,.own 0 0),(4,.val (.int .i64 i)),(5,.val (.int .i64 (goK l[i]))),(6,.own 2 0),(7,.val (.int .i64 led.length)),(8,.val (.int .i64 p)),(9,.val (.int .i64 (goK l[p.toNat]))),(10,bsv x.2),(11,.val (.int .i64 x.1))],H:=[.own 41 0 5 A1 l.length c1 (cellsI (mixL (thrI l) l i)),.gone g,.own 3 0 1 A2 (led.length+1) c2 (intsV (p :: led).reverse)] }) (fun x=>led.length+1 - x.1) (fun _=>rfl) ?start3 ?round3
      case start3 =>
       intro a W rep
       refine⟨(0,false),⟨by omega,by simp⟩,rep.le ?_ ?_⟩ <;> simp only[bsv] <;> (simp only[go_sem,lk,Nat.reduceBEq,reduceLT,reduceAdd] <;> try simp)
      case round3 =>
       rintro ⟨k,b⟩ ⟨hk3,hb⟩ I3 hI3
       have hk3:k≤led.length+1:=hk3
       have hb:b=decide (l[p.toNat].imm ∈ (p :: led).reverse.take k):=hb
       have hrl:(p :: led).reverse.length=led.length+1:=by simp
       have tk:∀ (h:k < led.length+1),(p :: led).reverse.take (k+1)=(p :: led).reverse.take k++[(p :: led).reverse[k]'(by omega)]:=fun h=>by
        rw[List.take_add_one,List.getElem?_eq_getElem (by omega)]; rfl
       have mem_all:k=led.length+1→(l[p.toNat].imm ∈ (p :: led).reverse.take k ↔ l[p.toNat].imm ∈ p :: led):=fun e=>by
        rw[List.take_of_length_le (by omega),List.mem_reverse]
       cases b with
       | true =>
        simp only[bsv]
        have hb:=of_decide_eq_true hb.symm
        (refine Y_go 600 ?_; dsimp only[go_sem,Nat.reduceBEq])
        refine⟨fun h=>?_,fun h=>?_⟩
        ·have h:k < led.length+1:=by have:=of_decide_eq_true h; omega
         refine⟨_,.add64 (by omega) (by omega),zj00 fun a W rep=>hI3 (k+1,true) ⟨by show k+1≤_; omega,?_⟩ (by show led.length+1 - (k+1) < led.length+1 - k; omega) a W (rep.le ?_ ?_)⟩
         ·show true=decide (l[p.toNat].imm ∈ (p :: led).reverse.take (k+1))
          rw[tk h]; exact (decide_eq_true (List.mem_append_left _ hb)).symm
         ·simp only[bsv]; (simp only[go_sem,lk,Nat.reduceBEq,reduceLT,reduceAdd] <;> try simp)
         ·(simp only[go_sem,lk,Nat.reduceBEq,reduceLT,reduceAdd] <;> try simp)
        ·have hk':k=led.length+1:=by have:=of_decide_eq_false h; omega
         have hin:=(mem_all hk').1 hb
         have hst:=stop (fun q=>q.2 hin)
         refine⟨fun h2=>?_,fun h2=>?_⟩
         ·exact⟨_,.toSub rfl (by omega) (by omega),⟨by omega,by omega⟩,p,by rw[hsub]; exact zj37 p led,⟨by omega,by omega⟩,hi5,_,.add64 (by omega) (by omega),endg hst _ (by (simp only[go_sem,lk,Nat.reduceBEq,reduceLT,reduceAdd] <;> try simp))⟩
         ·exact⟨_,.toSub rfl (by omega) (by omega),⟨by omega,by omega⟩,p,by rw[hsub]; exact zj37 p led,⟨by omega,by omega⟩,hi5,_,.add64 (by omega) (by omega),endg hst _ (by (simp only[go_sem,lk,Nat.reduceBEq,reduceLT,reduceAdd] <;> try simp))⟩
       | false =>
        simp only[bsv]
        have hb:=of_decide_eq_false hb.symm
        (refine Y_go 600 ?_; dsimp only[go_sem,Nat.reduceBEq,Nat.reduceMul,reduceAdd])
        refine⟨fun h=>?_,fun h=>?_⟩
        ·have h:k < led.length+1:=by have:=of_decide_eq_true h; omega
         refine⟨⟨by omega,by omega⟩,(p :: led).reverse[k]'(by omega),by rw[show (k:Int).toNat*1=k by omega]; exact intsV_get (by omega),⟨by omega,by omega,someI hA hpl⟩,someI hA hpl,_,cellI hA hpl (k:=4) rfl,_,.add64 (by omega) (by omega),zj00 fun a W rep=>hI3 (k+1,((p :: led).reverse[k]'(by omega) == l[p.toNat].imm)) ⟨by show k+1≤_; omega,?_⟩ (by show led.length+1 - (k+1) < led.length+1 - k; omega) a W ((zj1l 10 rep rfl).le ?_ ?_)⟩
         ·show _=decide (l[p.toNat].imm ∈ (p :: led).reverse.take (k+1))
          rw[tk h,Bool.eq_iff_iff]; simp only[List.mem_append,hb,false_or,List.mem_singleton,decide_eq_true_eq,beq_iff_eq]
          exact eq_comm
         ·generalize ((p :: led).reverse[k]'(by omega) == l[p.toNat].imm)=q
          cases q <;> simp only[bsv] <;> (simp only[go_sem,lk,Nat.reduceBEq,reduceLT,reduceAdd] <;> try simp)
         ·(simp only[go_sem,lk,Nat.reduceBEq,reduceLT,reduceAdd] <;> try simp)
        ·have hk':k=led.length+1:=by have:=of_decide_eq_false h; omega
         have hni:l[p.toNat].imm ∉ p :: led:=fun q=>hb ((mem_all hk').2 q)
         refine⟨fun h2=>?_,fun h2=>?_⟩
         ·have h2:goK l[p.toNat] ≠ 1:=by simpa using h2
          exact⟨_,.toSub rfl (by omega) (by omega),⟨by omega,by omega⟩,p,by rw[hsub]; exact zj37 p led,⟨by omega,by omega⟩,hi5,_,.add64 (by omega) (by omega),endg (stop fun q=>h2 q.1) _ (by (simp only[go_sem,lk,Nat.reduceBEq,reduceLT,reduceAdd] <;> try simp))⟩
         ·have h2:goK l[p.toNat]=1:=by simpa using h2
          have him2:=zj1q (x:=l[p.toNat]) (by rw[h2]; decide)
          rw[thr_on hx ⟨h2,hni⟩] at hthr
          refine⟨⟨by omega,by omega,someI hA hpl⟩,someI hA hpl,_,cellI hA hpl (k:=4) rfl,fun g2=>⟨⟨by simp only[maxLen]; omega,by omega⟩,fun A3 c3=>⟨_,.add64 (by omega) (by omega),zj00 fun a W rep=>hI2 ⟨p :: led,l[p.toNat].imm,A3,c3⟩ ⟨by show led.length+1≤_; omega,hled.step (by omega) hni him2.1,him2.2,?_⟩ (by show l.length - (led.length+1) < l.length - led.length; omega) a W (rep.res.le ?_ ?_)⟩⟩⟩
          ·show thr l (l.length - (led.length+1)) (p :: led) l[p.toNat].imm=_
           rw[← hthr,show l.length - (led.length+1)=m by omega]
          ·(simp only[go_sem,lk,Nat.reduceBEq,reduceLT,reduceAdd] <;> try simp)
          ·(simp only[go_sem,lk,Nat.reduceBEq,reduceLT,reduceAdd] <;> try simp)
           simp[intsV]
theorem thread56 (A:Option Addr) (c:Nat) (l:List In) (w:World) (hG:ShAt w) (hA:RowAt w A (cellsI l)) (hl:l.length≤2000) :
  CallsV Tryz.prog 56 [.slice A l.length c] w fun v w'=>Fresh w w'∧((l.length≤1024∧∃ s,v=.tuple #[s,.int .i64 0]∧World.ownsB w' w.heap.size 41 5 s l.length (cellsI (zj0a l)))∨(1024 < l.length∧v=.tuple #[.slice none 0 0,.int .i64 2])):=by
 refine zj03 (keep:=K56) (nt:=83) (svs:=[.val (.slice A l.length c)]) Tryz.func56 x56 n56 (by simp) (by simp[IsL,Is]) fun R hR=>?_
 (refine Y_go 600 ?_; dsimp only[go_sem,reduceAdd,Nat.reduceBEq])
 refine⟨fun h=>?_,fun h=>?_⟩
 ·have h:=of_decide_eq_true h
  exact zj02 (vs:=[_,_]) r56 rfl rfl fun W hW=>hR _ _ ⟨hW.fresh',.inr ⟨by omega,rfl⟩⟩
 have h1024:l.length≤1024:=by have:=of_decide_eq_false h; omega
 refine zj16 (vs:=[.slice A l.length c]) rfl (fun W hW=>clone82 A c l W (hA.keep hW.fresh') (by omega)) fun A1 c1=>?_
 (refine Y_go 600 ?_; dsimp only[go_sem,Nat.reduceBEq])
 refine zj04 (α:=Nat) (fun i=>i≤l.length) (fun _=>⟨w,w.heap.size,[],83,[]⟩)
  (fun i=>{ F:=[(0,.val (.slice A l.length c)),(4,.own 0 0),(20,.val (.slice A l.length c)),(21,.val (.int .i64 l.length)),(22,.val (.int .i64 i))],H:=[.own 41 0 5 A1 l.length c1 (cellsI (mixL (thrI l) l i))] }) (fun i=>l.length - i) (fun _=>rfl) ?start ?round
 case start =>
  intro a W rep
  refine⟨0,Nat.zero_le _,rep.le ?_ ?_⟩ <;> (simp only[go_sem,lk,Nat.reduceBEq,reduceLT,reduceAdd] <;> try simp)
  simp[mixL_zero]
 case round =>
  intro i hi I hI
  have hi:i≤l.length:=hi
  (refine Y_go 600 ?_; dsimp only[go_sem,Nat.reduceBEq,reduceAdd])
  refine⟨fun h=>?_,fun h=>?_⟩
  rotate_left
  ·have hil:i=l.length:=by have:=of_decide_eq_false h; omega
   subst hil
   refine zj02 (vs:=[_,_]) r56 rfl rfl fun W hW=>hR _ _ ⟨hW.fresh',.inl ⟨h1024,_,rfl,?_⟩⟩
   have:=hW.owns (i:=0) rfl
   rw[mixL_all] at this; exact this
  have hlt:i < l.length:=by have:=of_decide_eq_true h; omega
  have next:∀ F,leF 1 F [(0,.val (.slice A l.length c)),(4,.own 0 0),(20,.val (.slice A l.length c)),(21,.val (.int .i64 l.length)),(22,.val (.int .i64 ((i:Int)+1)))]→∀ H,(∃ r,H=SO.own 41 0 5 A1 l.length c1 (cellsI (mixL (thrI l) l (i+1))) :: r)→G (cxOf Tryz.prog Tryz.f56 K56 T56 R) ⟨w,w.heap.size,[],83,[]⟩ [.lend I] { F:=F,H:=H }:=by
   rintro F hF H ⟨r,rfl⟩
   refine zj00 fun a W rep=>hI (i+1) (by show i+1≤l.length; omega) (by show l.length - (i+1) < l.length - i; omega) a W (rep.le ?_ ?_)
   ·exact hF
   ·(simp only[go_sem,lk,Nat.reduceBEq,reduceLT,reduceAdd] <;> try simp)
  refine⟨⟨by omega,by omega,someI hA hlt⟩,_,cellI hA hlt (k:=0) rfl,_,cellI hA hlt (k:=1) rfl,_,cellI hA hlt (k:=2) rfl,_,cellI hA hlt (k:=3) rfl,_,cellI hA hlt (k:=4) rfl,fun g=>?_⟩
  refine zj01 (vs:=[In.val l[i]]) rfl (fun W hW=>goes84 l[i] W (hG.keep hW.fresh')) fun v hv=>⟨.tup [.val (.bool (goK l[i] == 1)),.val (.bool (goK l[i] == 2))],by rw[hv]; simp[Is,IsL],?_⟩
  (refine Y_go 600 ?_; dsimp only[go_sem,Nat.reduceBEq,reduceAdd])
  have wr:∀ q:Int,setn (cellsI (mixL (thrI l) l i)) (i*5+4) (.int .i64 q)=cellsI ((mixL (thrI l) l i).set i { l[i] with imm:=q }):=fun q =>
   zj43 _ i 4 (by rw[zj44]; exact hlt) _ _ (by omega) (by rw[zj7d _ _ hlt]; rfl)
  have wl:(cellsI (mixL (thrI l) l i)).length=l.length*5:=by rw[zj06,zj44]
  have raw:goK l[i] ≠ 0→∀ g1 F,leF 3 F [(0,.val (.slice A l.length c)),(4,.own 0 0),(5,.val (.int .i64 i)),(9,.mp 2),(10,.val (.int .i64 l[i].imm)),(20,.val (.slice A l.length c)),(21,.val (.int .i64 l.length)),(22,.val (.int .i64 i))] →
    G (cxOf Tryz.prog Tryz.f56 K56 T56 R) ⟨w,w.heap.size,[],83,[]⟩ [.code (XC.ref 6).loop,.blk 2,.code (.ref 7),.blk 1,.code (match T56n13 with | .seq _ b=>b | _=>.skip),.lend I,.blk 0,.code (.ref 16)]
     { F:=F,H:=[.own 41 0 5 A1 l.length c1 (cellsI (mixL (thrI l) l i)),.cells g 41 (In.sv l[i]),.map g1 []] }:=by
   intro hk g1 F hF
   have him:=zj1q hk
   have tgt:thrI l l[i]={ l[i] with imm:=thr l l.length [] l[i].imm }:=thrI_yes hk
   have hi5:(i:Int).toNat*5+4+1≤(cellsI (mixL (thrI l) l i)).length:=by rw[wl]; omega
   refine zj04 (α:=List Int × Int) (fun x=>LedOk l x.1 x.2∧thr l l.length x.1 x.2=thr l l.length [] l[i].imm) (fun _=>⟨w,w.heap.size,[],83,[]⟩)
    (fun x=>{ F:=[(0,.val (.slice A l.length c)),(4,.own 0 0),(5,.val (.int .i64 i)),(9,.mp 2),(10,.val (.int .i64 x.2)),(20,.val (.slice A l.length c)),(21,.val (.int .i64 l.length)),(22,.val (.int .i64 i))],H:=[.own 41 0 5 A1 l.length c1 (cellsI (mixL (thrI l) l i)),.cells g 41 (In.sv l[i]),.map g1 (setM x.1.reverse)] }) (fun x=>l.length - x.1.length) (fun _=>rfl) ?start2 ?round2
   case start2 =>
    intro a W rep
    refine⟨([],l[i].imm),⟨⟨List.nodup_nil,by simp,by simp,him.1⟩,rfl⟩,rep.le ?_ ?_⟩
    ·exact hF
    ·(simp only[go_sem,lk,Nat.reduceBEq,reduceLT,reduceAdd] <;> try simp)
     simp[In.sv,scp,scpL,setM]
   case round2 =>
    rintro ⟨led,p⟩ ⟨hled,hthr⟩ I2 hI2
    have hled:LedOk l led p:=hled
    have hthr:thr l l.length led p=thr l l.length [] l[i].imm:=hthr
    have hp0:=hled.p0
    have fin:thr l l.length [] l[i].imm=p→mixL (thrI l) l (i+1)=(mixL (thrI l) l i).set i { l[i] with imm:=p }:=fun e=>by
     rw[zj5p _ _ hlt,tgt,e]
    have endg:thr l l.length [] l[i].imm=p→∀ F,leF 1 F [(0,.val (.slice A l.length c)),(4,.own 0 0),(20,.val (.slice A l.length c)),(21,.val (.int .i64 l.length)),(22,.val (.int .i64 ((i:Int)+1)))]→∀ r,G (cxOf Tryz.prog Tryz.f56 K56 T56 R) ⟨w,w.heap.size,[],83,[]⟩ [.lend I] { F:=F,H:=.own 41 0 5 A1 l.length c1 (setn (cellsI (mixL (thrI l) l i)) ((i:Int).toNat*5+4) (.int .i64 p)) :: r }:=fun e F hF r =>
     next F hF _ ⟨r,by rw[fin e,← wr]; rfl⟩
    (refine Y_go 600 ?_; dsimp only[go_sem,In.sv,Nat.reduceBEq])
    refine⟨fun h=>?_,fun h=>?_⟩
    rotate_left
    ·have h:=of_decide_eq_false h
     have hno:l[p.toNat]? = none:=by rw[List.getElem?_eq_none_iff]; omega
     rw[thr_end hno] at hthr
     exact⟨⟨by omega,by omega⟩,hi5,_,.add64 (by omega) (by omega),endg hthr.symm _ (by (simp only[go_sem,lk,Nat.reduceBEq,reduceLT,reduceAdd] <;> try simp)) _⟩
    have h:=of_decide_eq_true h
    have hpl:p.toNat < l.length:=by omega
    have hx:l[p.toNat]? = some l[p.toNat]:=List.getElem?_eq_getElem hpl
    have hnr:p ∉ led.reverse:=fun q=>hled.no (List.mem_reverse.1 q)
    have hput:mput (setM led.reverse) (.int .i64 p) (.agg #[])=setM (p :: led).reverse:=by rw[setM_put _ _ hnr]; simp
    have stop:¬ (goK l[p.toNat]=1∧l[p.toNat].imm ∉ p :: led)→thr l l.length [] l[i].imm=p:=fun h=>by rw[← hthr,zj42 hx h]
    refine⟨setM_keys _,⟨by omega,by omega,someI hA hpl⟩,_,cellI hA hpl (k:=0) rfl,_,cellI hA hpl (k:=1) rfl,_,cellI hA hpl (k:=2) rfl,_,cellI hA hpl (k:=3) rfl,_,cellI hA hpl (k:=4) rfl,?_⟩
    refine zj01 (vs:=[In.val l[p.toNat]]) rfl (fun W hW=>goes84 _ W (hG.keep hW.fresh')) fun v hv=>⟨.tup [.val (.bool (goK l[p.toNat] == 1)),.val (.bool (goK l[p.toNat] == 2))],by rw[hv]; simp[Is,IsL],?_⟩
    (refine Y_go 600 ?_; dsimp only[go_sem,Nat.reduceBEq,reduceAdd])
    refine⟨⟨by omega,by omega,someI hA hpl⟩,someI hA hpl,_,cellI hA hpl (k:=4) rfl,by rw[hput]; exact setM_keys _,_,rfl,.agg [],?_,?_⟩
    ·rw[hput,zj7c]; split <;> rfl
    have hmem:(mget (setM (p :: led).reverse) (.int .i64 l[p.toNat].imm)).isSome=decide (l[p.toNat].imm ∈ p :: led):=by
     rw[zj7c]
     simp only[List.mem_reverse]
     split <;> simp[*]
    rw[hput,hmem]
    dsimp only[go_sem,Nat.reduceBEq]
    refine fun g2=>⟨fun h2=>?_,fun h2=>⟨fun h3=>?_,fun h3=>?_⟩⟩
    ·have h2:goK l[p.toNat] ≠ 1:=by simpa using h2
     exact⟨⟨by omega,by omega⟩,hi5,_,.add64 (by omega) (by omega),endg (stop fun q=>h2 q.1) _ (by (simp only[go_sem,lk,Nat.reduceBEq,reduceLT,reduceAdd] <;> try simp)) _⟩
    ·have h3:=of_decide_eq_true h3
     exact⟨⟨by omega,by omega⟩,hi5,_,.add64 (by omega) (by omega),endg (stop fun q=>q.2 h3) _ (by (simp only[go_sem,lk,Nat.reduceBEq,reduceLT,reduceAdd] <;> try simp)) _⟩
    ·have h2:goK l[p.toNat]=1:=by simpa using h2
     have h3:=of_decide_eq_false h3
     have him2:=zj1q (x:=l[p.toNat]) (by rw[h2]; decide)
     have hst:=hled.step (by omega) h3 him2.1
     refine⟨⟨by omega,by omega,someI hA hpl⟩,someI hA hpl,_,cellI hA hpl (k:=4) rfl,zj00 fun a W rep=>hI2 (p :: led,l[p.toNat].imm) ⟨hst,?_⟩ ?_ a W (rep.le ?_ ?_)⟩
     ·show thr l l.length (p :: led) l[p.toNat].imm=_
      rw[← hthr,thr_all hled hx ⟨h2,h3⟩]
     ·have:=hst.len
      show l.length - (p :: led).length < l.length - led.length
      simp only[List.length_cons] at this ⊢; omega
     ·(simp only[go_sem,lk,Nat.reduceBEq,reduceLT,reduceAdd] <;> try simp)
     ·simp only[In.sv]; (simp only[go_sem,lk,Nat.reduceBEq,reduceLT,reduceAdd] <;> try simp)
  refine⟨fun h1=>⟨fun h2=>?_,fun h2 g1=>?_⟩,fun h1 g1=>?_⟩
  ·have h1:goK l[i] ≠ 1:=by simpa using h1
   have h2:goK l[i] ≠ 2:=by simpa using h2
   have hz:goK l[i]=0:=by
    unfold goK at h1 h2 ⊢
    split
    ·split
     ·simp_all
     ·split
      ·simp_all
      ·rfl
    ·rfl
   refine⟨_,.add64 (by omega) (by omega),next _ (by (simp only[go_sem,lk,Nat.reduceBEq,reduceLT,reduceAdd] <;> try simp)) _ ⟨[.cells g 41 (In.sv l[i])],?_⟩⟩
   ·rw[mixL_same _ _ hlt (thrI_no hz)]; rfl
  ·have h2:goK l[i]=2:=by simpa using h2
   exact raw (by rw[h2]; decide) g1 _ (by (simp only[go_sem,lk,Nat.reduceBEq,reduceLT,reduceAdd] <;> try simp))
  ·have h1:goK l[i]=1:=by simpa using h1
   exact raw (by rw[h1]; decide) g1 _ (by (simp only[go_sem,lk,Nat.reduceBEq,reduceLT,reduceAdd] <;> try simp))
end Go.Proofs.YtlbiogokpadaoaaGreatDoor
