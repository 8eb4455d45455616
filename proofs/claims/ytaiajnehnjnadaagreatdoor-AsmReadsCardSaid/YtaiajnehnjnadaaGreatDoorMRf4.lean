/- Labels looked for; the first wrong line: shuntref15.find, fail. -/
import Derived.Test.YtaiajnehnjnadaaGreatDoorMRf3
import Derived.Test.YtaiajnehnjnadaaGreatDoorMAsW5
import Derived.Test.YtaiajnehnjnadaaGreatDoorMIrLaw5
set_option linter.unusedSimpArgs false
set_option linter.unusedVariables false
set_option linter.unnecessarySimpa false
namespace Go.Proofs.YtaiajnehnjnadaaGreatDoor
open Go Go.Sx Go.Isa Go.Asm
open Nat (reduceAdd reduceLT)
set_option maxRecDepth 100000
theorem find12 (A:Option Addr) (c:Nat) (lb:List (B × Nat)) (nm:B) (w:World) (hA:RowAt w A (lbV lb)) (hl:lb.length≤100000):CallsV Tryz.prog 12 [.slice A lb.length c,.string ⟨⟨nm⟩⟩] w fun v w'=>v=.int .i64 (fixI lb nm)∧Fresh w w':=by
 refine zj05 (keep:=K12) (nt:=20) (svs:=[.val (.slice A lb.length c),.val (.string ⟨⟨nm⟩⟩)]) Tryz.func12 x12 n12 (by simp) (by simp[IsL,Is]) fun R hR=>?_
 (refine Y_go 600 ?_; dsimp only[go_sem,reduceAdd,Nat.reduceBEq])
 refine zj09 (α:=Nat) (fun i=>i≤lb.length∧∀ j p,j < i→lb[j]? = some p→p.1 ≠ nm) (fun _=>⟨w,w.heap.size,[],20,[]⟩) (fun i=>{ F:=[(0,.val (.slice A lb.length c)),(1,.val (.string ⟨⟨nm⟩⟩)),(5,.val (.int .i64 (i:Int)))],H:=[] }) (fun i=>lb.length - i) (fun _=>rfl) ?start ?round
 case start =>
  intro a W rep
  exact⟨0,⟨Nat.zero_le _,fun j p hj=>absurd hj (Nat.not_lt_zero _)⟩,rep.lq⟩
 case round =>
  rintro i ⟨hi,hno⟩ I again
  (refine Y_go 600 ?_; dsimp only[go_sem,Nat.reduceBEq])
  refine⟨fun hlt=>?_,fun hge=>?_⟩
  ·have hlt:i < lb.length:=by have:=of_decide_eq_true hlt; omega
   have hi1:((i:Nat):Int).toNat=i:=by omega
   have hx:lb[i]? = some lb[i]:=List.getElem?_eq_getElem hlt
   have cl:∀ k v,k < 2→(lbC lb[i])[k]? = some v→CellAt ⟨w,w.heap.size,[],20,[]⟩ A (i*2+k) v:=fun k v hk hv=>hA.cell (by rw[lb_get hlt hk]; exact hv)
   have sA:A.isSome=true:=hA.isSome (j:=i*2) (by rw[lb_len]; omega)
   generalize lb[i]=p at cl hx
   rw[hi1]
   refine⟨⟨by omega,by omega,sA⟩,sA,_,cl 0 _ (by omega) rfl,fun h=>?_,fun h=>?_⟩
   ·have h:decide (p.1=nm)=true:=(strEq _ _).symm.trans h
    have h:=of_decide_eq_true h
    refine zj03 (vs:=[.int .i64 (i:Int)]) r12 rfl rfl fun W hW=>hR _ _ ⟨?_,hW.fresh'⟩
    have:lb.findIdx? (fun p=>p.1 == nm)=some i:=by
     rw[List.findIdx?_eq_some_iff_getElem]
     refine⟨hlt,?_,fun j hj=>?_⟩
     ·rw[List.getElem?_eq_getElem hlt] at hx
      injection hx with hx; rw[hx]; simpa using h
     ·have:=hno j lb[j] hj (List.getElem?_eq_getElem (by omega))
      simpa using this
    unfold fixI; rw[this]; rfl
   ·have h:decide (p.1=nm)=false:=(strEq _ _).symm.trans h
    have h:=of_decide_eq_false h
    exact⟨((i+1:Nat):Int),ArOk.to (by omega) (by omega) (by omega),zj01 fun a W rep=>again (i+1) ⟨by omega,fun j q hj hq=>by
     by_cases e:j=i
     ·subst e; rw[hx] at hq; injection hq with hq; rw[← hq]; exact h
     ·exact hno j q (by omega) hq⟩ (by omega) a W (rep.lq)⟩
  ·have hil:i=lb.length:=by have:=of_decide_eq_false hge; omega
   subst hil
   refine zj03 (vs:=[.int .i64 (-1)]) r12 rfl rfl fun W hW=>hR _ _ ⟨?_,hW.fresh'⟩
   have:lb.findIdx? (fun p=>p.1 == nm)=none:=by
    rw[List.findIdx?_eq_none_iff]
    intro p hp
    obtain⟨j,hj,he⟩:=List.mem_iff_getElem.1 hp
    have:=hno j p hj (by rw[List.getElem?_eq_getElem hj,he])
    simpa using this
   unfold fixI; rw[this]; rfl
theorem ls_get {l:List (Nat × B)} {i:Nat} (hi:i < l.length) {k:Nat} (hk:k < 2):(lsV l)[i*2+k]? = (lsC l[i])[k]? := zj2d (f:=lsC) (sz:=2) (fun _=>rfl) l hi hk
theorem fail13 (AL AT AN:Option Addr) (cl ct cn:Nat) (ls:List (Nat × B)) (L:List Ln) (n:Nat) (w:World) (hL:RowAt w AL (lsV ls)) (hT:RowAt w AT (L.map fun y=>.int .i64 (y.n:Int))) (hN:RowAt w AN (L.map fun y=>.string ⟨⟨y.name⟩⟩))
  (hls:ls.length≤100000) (hLl:L.length≤100000) (hb:∀ p ∈ ls,p.2.length≤90000):CallsV Tryz.prog 13 [.slice AL ls.length cl,.slice AT L.length ct,.slice AN L.length cn,.int .i64 (n:Int)] w fun v w'=>v=.tuple #[.slice none 0 0,.slice none 0 0,.int .i64 (wrongL (allN ls) L n:Nat),.int .i64 150]∧Fresh w w':=by
 refine zj05 (keep:=K13) (nt:=63) (svs:=[.val (.slice AL ls.length cl),.val (.slice AT L.length ct),.val (.slice AN L.length cn),.val (.int .i64 (n:Int))]) Tryz.func13 x13 n13 (by simp) (by simp[IsL,Is]) fun R hR=>?_
 (refine Y_go 600 ?_; dsimp only[go_sem,reduceAdd,Nat.reduceBEq])
 refine zj09 (α:=Nat) (fun i=>i≤L.length∧wrongL (allN ls) (L.drop i) n=wrongL (allN ls) L n) (fun _=>⟨w,w.heap.size,[],63,[]⟩) (fun i=>{ F:=[(0,.val (.slice AL ls.length cl)),(1,.val (.slice AT L.length ct)),(2,.val (.slice AN L.length cn)),(3,.val (.int .i64 (n:Int))),(12,.val (.int .i64 (i:Int)))],H:=[] }) (fun i=>L.length - i) (fun _=>rfl) ?start ?round
 case start =>
  intro a W rep
  exact⟨0,⟨Nat.zero_le _,rfl⟩,rep.lq⟩
 case round =>
  rintro i ⟨hi,hw⟩ I again
  (refine Y_go 600 ?_; dsimp only[go_sem,Nat.reduceBEq])
  refine⟨fun hlt=>?_,fun hge=>?_⟩
  ·have hlt:i < L.length:=by have:=of_decide_eq_true hlt; omega
   have hi1:((i:Nat):Int).toNat=i:=by omega
   have hx:L[i]? = some L[i]:=List.getElem?_eq_getElem hlt
   have hdr:L.drop i=L[i] :: L.drop (i+1):=List.drop_eq_getElem_cons hlt
   generalize L[i]=y at hx hdr
   have cN:CellAt ⟨w,w.heap.size,[],63,[]⟩ AN i (.string ⟨⟨y.name⟩⟩):=hN.cell (by rw[List.getElem?_map,hx]; rfl)
   have cT:CellAt ⟨w,w.heap.size,[],63,[]⟩ AT i (.int .i64 (y.n:Int)):=hT.cell (by rw[List.getElem?_map,hx]; rfl)
   have sN:AN.isSome=true:=hN.isSome (j:=i) (by simpa using hlt)
   have sT:AT.isSome=true:=hT.isSome (j:=i) (by simpa using hlt)
   rw[hdr] at hw
   have hstep:wrongL (allN ls) (y :: L.drop (i+1)) n=if y.name ≠ []∧y.name ∉ allN ls then y.n else wrongL (allN ls) (L.drop (i+1)) n:=rfl
   rw[hstep] at hw
   rw[hi1]
   refine⟨⟨by omega,by omega,sN⟩,_,by rw[Nat.mul_one]; exact cN,?_⟩
   have ht0:strB .eql ⟨⟨y.name⟩⟩ ⟨⟨[]⟩⟩=decide (y.name=[]):=strEq _ _
   rw[ht0]
   have nxt:y.name=[]∨y.name ∈ allN ls→∀ F,leF 0 F [(0,.val (.slice AL ls.length cl)),(1,.val (.slice AT L.length ct)),(2,.val (.slice AN L.length cn)),(3,.val (.int .i64 (n:Int))),(12,.val (.int .i64 ((i+1:Nat):Int)))]→G (cxOf Tryz.prog Tryz.f13 K13 T13 R) ⟨w,w.heap.size,[],63,[]⟩ [.lend I,.blk 0,.code (.ref 10)] { F:=F,H:=[] }:=fun h F hF =>
    zj01 fun a W rep=>again (i+1) ⟨by omega,by rw[if_neg (by rintro ⟨h1,h2⟩; rcases h with h | h; exact h1 h; exact h2 h)] at hw; exact hw⟩ (by omega) a W (rep.le hF (by (simp only[go_sem,lk,Nat.reduceBEq,reduceLT,reduceAdd] <;> try simp)))
   have done:y.name ≠ []→y.name ∉ allN ls→∀ F H,denAll H F [8,9,10,11]=some [.slice none 0 0,.slice none 0 0,.int .i64 (y.n:Int),.int .i64 150]→RetG (cxOf Tryz.prog Tryz.f13 K13 T13 R) ⟨w,w.heap.size,[],63,[]⟩ { F:=F,H:=H }:=fun h1 h2 F H hd=>by
    rw[if_pos ⟨h1,h2⟩] at hw
    exact zj03 (vs:=[_,_,_,_]) r13 rfl hd fun W hW=>hR _ _ ⟨by rw[← hw]; rfl,hW.fresh'⟩
   refine zj09 (α:=Nat × Bool) (fun x=>x.1≤ls.length∧(x.2=true→y.name=[]∨y.name ∈ allN ls)∧(x.2=false→y.name ≠ []∧∀ j p,j < x.1→ls[j]? = some p→toldL p.2 ≠ some y.name)) (fun _=>⟨w,w.heap.size,[],63,[]⟩)
    (fun x=>{ F:=[(0,.val (.slice AL ls.length cl)),(1,.val (.slice AT L.length ct)),(2,.val (.slice AN L.length cn)),(3,.val (.int .i64 (n:Int))),(12,.val (.int .i64 (i:Int))),(13,.val (.bool x.2)),(14,.val (.int .i64 (x.1:Int)))],H:=[] }) (fun x=>ls.length - x.1) (fun _=>rfl) ?start ?round
   case start =>
    intro a W rep
    refine⟨(0,decide (y.name=[])),⟨Nat.zero_le _,fun h=>.inl (of_decide_eq_true h),fun h=>⟨of_decide_eq_false h,fun j p hj=>absurd hj (Nat.not_lt_zero _)⟩⟩,rep.lq⟩
   case round =>
    rintro ⟨k,b⟩ ⟨hk,h1,h2⟩ I2 again2
    simp only at hk h1 h2
    (refine Y_go 600 ?_; dsimp only[go_sem,Nat.reduceBEq])
    have cT':CellAt ⟨w,w.heap.size,[],63,[]⟩ AT ((i:Int).toNat*1) (.int .i64 (y.n:Int)):=by rw[hi1,Nat.mul_one]; exact cT
    have cN':CellAt ⟨w,w.heap.size,[],63,[]⟩ AN ((i:Int).toNat*1) (.string ⟨⟨y.name⟩⟩):=by rw[hi1,Nat.mul_one]; exact cN
    refine⟨fun hlt2=>⟨fun hb0=>?_,fun hb1=>⟨fun h=>absurd (h.symm.trans hb1) (by decide),fun _=>⟨((i+1:Nat):Int),ArOk.to (by omega) (by omega) (by omega),nxt (h1 (by simpa using hb1)) _ (by (simp only[go_sem,lk,Nat.reduceBEq,reduceLT,reduceAdd] <;> try simp))⟩⟩⟩,fun hge2=>⟨fun hb0=>⟨⟨by omega,by omega,sT⟩,_,cT',?_⟩,fun hb1=>⟨((i+1:Nat):Int),ArOk.to (by omega) (by omega) (by omega),nxt (h1 (by simpa using hb1)) _ (by (simp only[go_sem,lk,Nat.reduceBEq,reduceLT,reduceAdd] <;> try simp))⟩⟩⟩
    ·have hb0:b=false:=by simpa using hb0
     obtain⟨h2a,h2b⟩:=h2 hb0
     have hlt2:k < ls.length:=by have:=of_decide_eq_true hlt2; omega
     have hk1:((k:Nat):Int).toNat=k:=by omega
     have hxk:ls[k]? = some ls[k]:=List.getElem?_eq_getElem hlt2
     have hpl:=hb ls[k] (List.getElem_mem hlt2)
     have hmem:=List.getElem_mem hlt2
     have cL:∀ j v,j < 2→(lsC ls[k])[j]? = some v→CellAt ⟨w,w.heap.size,[],63,[]⟩ AL (k*2+j) v:=fun j v hj hv=>hL.cell (by rw[ls_get hlt2 hj]; exact hv)
     have sL:AL.isSome=true:=hL.isSome (j:=k*2) (by rw[lsV_len]; omega)
     generalize ls[k]=p at hxk hpl cL hmem
     rw[hk1]
     refine⟨⟨by omega,by omega,sL⟩,sL,_,cL 1 _ (by omega) rfl,?_⟩
     refine zj00 (vs:=[.string ⟨⟨p.2⟩⟩]) rfl (fun W hW=>told11 p.2 W (by omega)) fun v hv=>⟨.tup [.val (.string ⟨⟨(toldV p.2).1⟩⟩),.val (.bool (toldV p.2).2)],by rw[hv]; simp[Is,IsL],?_⟩
     have htv:=zj4f p.2
     generalize toldV p.2=tv at htv
     obtain⟨tn,tb⟩:=tv
     simp only at htv
     (refine Y_go 600 ?_; dsimp only[go_sem,Nat.reduceBEq])
     have step:∀ q:Bool,(q=true→toldL p.2=some y.name)→(q=false→toldL p.2 ≠ some y.name)→∀ F,leF 0 F [(0,.val (.slice AL ls.length cl)),(1,.val (.slice AT L.length ct)),(2,.val (.slice AN L.length cn)),(3,.val (.int .i64 (n:Int))),(12,.val (.int .i64 (i:Int))),(13,.val (.bool q)),(14,.val (.int .i64 ((k+1:Nat):Int)))] →
       G (cxOf Tryz.prog Tryz.f13 K13 T13 R) ⟨w,w.heap.size,[],63,[]⟩ [.lend I2,.blk 2,.code (.ref 5),.blk 1,.code (.ref 7),.lend I,.blk 0,.code (.ref 10)] { F:=F,H:=[] }:=fun q q1 q2 F hF =>
      zj01 fun a W rep=>again2 (k+1,q) ⟨hlt2,fun e=>.inr (List.mem_filterMap.2 ⟨p,hmem,q1 e⟩),fun e=>⟨h2a,fun j z hj hz=>by
       by_cases e2:j=k
       ·subst e2; rw[hxk] at hz; injection hz with hz; rw[← hz]; exact q2 e
       ·exact h2b j z (by show j < k; have:j < k+1:=hj; omega) hz⟩⟩ (by show ls.length - (k+1) < ls.length - k; omega) a W (rep.le hF (by (simp only[go_sem,lk,Nat.reduceBEq,reduceLT,reduceAdd] <;> try simp)))
     refine⟨fun hb2=>⟨⟨by omega,by omega,sN⟩,_,cN',((k+1:Nat):Int),ArOk.to (by omega) (by omega) (by omega),?_⟩,fun hb2=>⟨((k+1:Nat):Int),ArOk.to (by omega) (by omega) (by omega),zj01 fun a W rep=>again2 (k+1,false) ⟨hlt2,fun e=>(by cases e),fun e=>⟨h2a,fun j z hj hz=>by
       by_cases e2:j=k
       ·subst e2; rw[hxk] at hz; injection hz with hz; rw[← hz,htv,if_neg (by simp[hb2])]; simp
       ·exact h2b j z (by show j < k; have:j < k+1:=hj; omega) hz⟩⟩ (by show ls.length - (k+1) < ls.length - k; omega) a W ((zj4w 13 (y:=.val (.bool false)) rep rfl (fun v h=>h)).lq)⟩⟩
     have hs:strB .eql ⟨⟨tn⟩⟩ ⟨⟨y.name⟩⟩=decide (tn=y.name):=strEq _ _
     rw[hs]
     refine step (decide (tn=y.name)) (fun h=>?_) (fun h h'=>?_) _ (by (simp only[go_sem,lk,Nat.reduceBEq,reduceLT,reduceAdd] <;> try simp))
     ·rw[htv,if_pos hb2,of_decide_eq_true h]
     ·rw[htv,if_pos hb2] at h'
      injection h' with h'
      exact of_decide_eq_false h h'
    ·have hb0:b=false:=by simpa using hb0
     obtain⟨h2a,h2b⟩:=h2 hb0
     have hge2:ls.length≤k:=by have:=of_decide_eq_false hge2; omega
     refine done h2a (fun hm=>?_) _ _ rfl
     obtain⟨p,hp,he⟩:=List.mem_filterMap.1 hm
     obtain⟨j,hj,hj2⟩:=List.mem_iff_getElem.1 hp
     exact h2b j p (by omega) (by rw[List.getElem?_eq_getElem hj,hj2]) he
  ·have hil:i=L.length:=by have:=of_decide_eq_false hge; omega
   subst hil
   rw[List.drop_length] at hw
   exact zj03 (vs:=[_,_,_,_]) r13 rfl rfl fun W hW=>hR _ _ ⟨by rw[← hw]; rfl,hW.fresh'⟩
end Go.Proofs.YtaiajnehnjnadaaGreatDoor
