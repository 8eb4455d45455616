/- A text's lines: shuntref15.Lines. -/
import Derived.Test.YtaiajnehnjnadaaGreatDoorMRf1
import Derived.Test.YtaiajnehnjnadaaGreatDoorPrBack
set_option linter.unusedSimpArgs false
set_option linter.unusedVariables false
set_option linter.unnecessarySimpa false
namespace Go.Proofs.YtaiajnehnjnadaaGreatDoor
open Go Go.Sx Go.Isa Go.Asm
open Nat (reduceAdd reduceLT)
set_option maxRecDepth 100000
def lsC (p:Nat × B):List Value:=[.int .i64 p.1,.string ⟨⟨p.2⟩⟩]
def lsV (ls:List (Nat × B)):List Value:=ls.flatMap lsC
theorem lsV_len (l:List (Nat × B)):(lsV l).length=l.length*2:=by
 induction l with
 | nil=>rfl
 | cons p l ih=>simp only[lsV,List.flatMap_cons,List.length_append,List.length_cons] at ih ⊢; rw[ih]; simp[lsC]; omega
theorem sayP_len (p:B) (n:Nat):(sayP p n).length≤1:=by
 unfold sayP
 split <;> simp
structure LSt where
 i:Nat
 fr:Nat
 n:Nat
 out:List (Nat × B)
 A:Option Addr
 c:Nat
structure LSOk (t:B) (x:LSt):Prop where
 fr:x.fr≤x.i
 n:x.n≤x.i+1
 out:x.out.length≤x.i
 eq:(x.i≤t.length∧linesL t=x.out++linesF (pieces (accB t x.fr x.i) (t.drop x.i)) x.n)∨(x.i=t.length+1∧linesL t=x.out)
theorem lines10 (t:B) (w:World) (ht:t.length≤90000):CallsV Tryz.prog 10 [.string ⟨⟨t⟩⟩] w fun v w'=>World.ownsB w' w.heap.size 53 2 v (linesL t).length (lsV (linesL t))∧Fresh w w':=by
 refine zj05 (keep:=K10) (nt:=95) (svs:=[.val (.string ⟨⟨t⟩⟩)]) Tryz.func10 x10 n10 (by simp) (by simp[IsL,Is]) fun R hR=>?_
 (refine Y_go 600 ?_; dsimp only[go_sem,reduceAdd,Nat.reduceBEq])
 have hsz:(⟨⟨t⟩⟩:ByteArray).size=t.length:=zj02 t
 have hsz2:(⟨t⟩:Array UInt8).size=t.length:=rfl
 refine zj09 (α:=LSt) (fun x=>LSOk t x) (fun _=>⟨w,w.heap.size,[],95,[]⟩)
   (fun x=>{ F:=[(0,.val (.string ⟨⟨t⟩⟩)),(3,.own 0 0),(4,.val (.int .i64 (x.n:Int))),(5,.val (.int .i64 (x.fr:Int))),(6,.val (.int .i64 (x.i:Int)))],H:=[.own 53 0 2 x.A x.out.length x.c (lsV x.out)] }) (fun x=>t.length+1 - x.i) (fun _=>rfl) ?start ?round
 case start =>
  intro a W rep
  refine⟨⟨0,0,1,[],none,0⟩,⟨Nat.le_refl _,by simp,by simp,.inl ⟨Nat.zero_le _,?_⟩⟩,(rep.adopt 3 53 2 rfl).le ?_ ?_⟩
  ·show linesL t=[]++linesF (pieces (accB t 0 0) (t.drop 0)) 1
   rw[accB_self]; rfl
  ·(simp only[go_sem,lk,Nat.reduceBEq,reduceLT,reduceAdd] <;> try simp)
  ·(simp only[go_sem,lk,Nat.reduceBEq,reduceLT,reduceAdd] <;> try simp); rfl
 case round =>
  rintro ⟨i,fr,n,out,A,c⟩ hx I again
  obtain⟨hfr,hn,ho,he⟩:=hx
  dsimp only at hfr hn ho he
  (refine Y_go 600 ?_; dsimp only[go_sem,Nat.reduceBEq])
  have hext:(⟨⟨t⟩⟩:ByteArray).extract (fr:Int).toNat (i:Int).toNat=⟨⟨accB t fr i⟩⟩:=by
   apply Go.Nl.ba_eq
   rw[Lib.extract_data]
   rfl
  have hacl:(accB t fr i).length≤t.length:=by unfold accB; rw[List.length_take,List.length_drop]; omega
  have body:i≤t.length→(∀ A' c',LSOk t ⟨i+1,i+1,n+1,out++sayP (accB t fr i) n,A',c'⟩)→∀ F,leF 1 F [(0,.val (.string ⟨⟨t⟩⟩)),(3,.own 0 0),(4,.val (.int .i64 (n:Int))),(5,.val (.int .i64 (fr:Int))),(6,.val (.int .i64 (i:Int))),(7,.val (.string ⟨⟨accB t fr i⟩⟩)),(8,.val (.int .i64 0))] →
    G (cxOf Tryz.prog Tryz.f10 K10 T10 R) ⟨w,w.heap.size,[],95,[]⟩ [.code (.loop (.ref 3)),.blk 2,.code (.ref 13),.blk 1,.code (.ref 16),.lend I,.blk 0,.code (.ref 19)] { F:=F,H:=[.own 53 0 2 A out.length c (lsV out)] }:=by
   intro hi hok F hF
   have hsay:sayP (accB t fr i) n=(match trimBl (cutRem (accB t fr i)) with | []=>[] | c :: r=>[(n,c :: r)]):=rfl
   have hclen:=zj2o (accB t fr i)
   have htrim:trimBl (cutRem (accB t fr i))=endBl ((cutRem (accB t fr i)).dropWhile isBl):=(trim_comm _).symm
   rw[htrim] at hsay
   have hcut:(accB t fr i).takeWhile (fun c=>!(c == 59))=cutRem (accB t fr i):=rfl
   generalize sayP (accB t fr i) n=say at hok hsay
   generalize cutRem (accB t fr i)=cr at hsay hclen hcut
   generalize accB t fr i=s0 at *
   refine zj09 (α:=B × Nat) (fun x=>(x.1.takeWhile (fun c=>!(c == 59))=cr∧(∀ j,j < x.2→x.1[j]? ≠ some 59))∧x.1.length≤t.length∧x.2≤t.length+1) (fun _=>⟨w,w.heap.size,[],95,[]⟩)
    (fun x=>{ F:=[(0,.val (.string ⟨⟨t⟩⟩)),(3,.own 0 0),(4,.val (.int .i64 (n:Int))),(5,.val (.int .i64 (fr:Int))),(6,.val (.int .i64 (i:Int))),(7,.val (.string ⟨⟨x.1⟩⟩)),(8,.val (.int .i64 (x.2:Int)))],H:=[.own 53 0 2 A out.length c (lsV out)] }) (fun x=>t.length+1 - x.2) (fun _=>rfl) ?start ?round
   case start =>
    intro a W rep
    exact⟨(s0,0),⟨⟨hcut,fun j hj=>absurd hj (Nat.not_lt_zero _)⟩,hacl,Nat.zero_le _⟩,rep.le hF (by (simp only[go_sem,lk,Nat.reduceBEq,reduceLT,reduceAdd] <;> try simp))⟩
   case round =>
    rintro ⟨s,k⟩ ⟨⟨h1,h2⟩,h3,h4⟩ I2 again2
    simp only at h1 h2 h3 h4
    (refine Y_go 600 ?_; dsimp only[go_sem,Nat.reduceBEq,Int.reduceToNat])
    have hsz3:(⟨⟨s⟩⟩:ByteArray).size=s.length:=zj02 s
    have hsz4:(⟨s⟩:Array UInt8).size=s.length:=rfl
    refine⟨fun hlt2=>?_,fun hge2=>?_⟩
    ·have hlt2:k < s.length:=by have:=of_decide_eq_true hlt2; omega
     have hx:s[k]? = some s[k]:=List.getElem?_eq_getElem hlt2
     generalize s[k]=d at hx
     have hk:((k:Nat):Int).toNat=k:=by omega
     rw[hk,ba_get]
     refine⟨by omega,d,hx,fun he=>?_,fun he=>?_⟩
     ·have hd:d=59:=by have:=eq_of_beq he; exact UInt8.toNat_inj.1 (by show d.toNat=59; omega)
      subst hd
      refine⟨⟨by omega,by omega,by omega⟩,((k+1:Nat):Int),ArOk.to (by omega) (by omega) (by omega),zj01 fun a W rep=>again2 (s.take k,k+1) ⟨⟨by rw[← h1]; exact tc_cut 59 s k hx h2,fun j hj=>?_⟩,by simp; omega,by show k+1≤t.length+1; omega⟩ (by show t.length+1 - (k+1) < t.length+1 - k; omega) a W (rep.le (by rw[zj1w]; (simp only[go_sem,lk,Nat.reduceBEq,reduceLT,reduceAdd] <;> try simp)) (by (simp only[go_sem,lk,Nat.reduceBEq,reduceLT,reduceAdd] <;> try simp)))⟩
      by_cases e:j=k
      ·subst e
       show (s.take j)[j]? ≠ some 59
       rw[List.getElem?_eq_none (by rw[List.length_take]; omega)]; simp
      ·show (s.take k)[j]? ≠ some 59
       rw[List.getElem?_take_of_lt (by omega)]; exact h2 j (by omega)
     ·have hd:d ≠ 59:=by
       intro e; subst e; simp at he
      exact⟨((k+1:Nat):Int),ArOk.to (by omega) (by omega) (by omega),zj01 fun a W rep=>again2 (s,k+1) ⟨⟨h1,fun j hj=>by
       by_cases e:j=k
       ·subst e; show s[j]? ≠ _; rw[hx]; simpa using hd
       ·exact h2 j (by omega)⟩,h3,by show k+1≤t.length+1; omega⟩ (by show t.length+1 - (k+1) < t.length+1 - k; omega) a W (rep.lq)⟩
    ·have hge2:s.length≤k:=by have:=of_decide_eq_false hge2; omega
     have hs:s=cr:=by rw[← h1]; exact (tc_all 59 s fun j hj=>h2 j (by omega)).symm
     subst hs
     clear h1 h2 h4 hge2 again2 hcut
     have tails:∀ s2:B,s2=s.dropWhile isBl→s2.length≤t.length→∀ F,leF 1 F [(0,.val (.string ⟨⟨t⟩⟩)),(3,.own 0 0),(4,.val (.int .i64 (n:Int))),(5,.val (.int .i64 (fr:Int))),(6,.val (.int .i64 (i:Int))),(7,.val (.string ⟨⟨s2⟩⟩))] →
       G (cxOf Tryz.prog Tryz.f10 K10 T10 R) ⟨w,w.heap.size,[],95,[]⟩ [.code (.loop (.ref 7)),.blk 6,.code (.ref 11),.blk 1,.code (.ref 16),.lend I,.blk 0,.code (.ref 19)] { F:=F,H:=[.own 53 0 2 A out.length c (lsV out)] }:=by
      intro s2 hs2 hl2 F hF
      rw[← hs2] at hsay
      refine zj09 (α:=B) (fun x=>endBl x=endBl s2∧x.length≤t.length) (fun _=>⟨w,w.heap.size,[],95,[]⟩)
       (fun x=>{ F:=[(0,.val (.string ⟨⟨t⟩⟩)),(3,.own 0 0),(4,.val (.int .i64 (n:Int))),(5,.val (.int .i64 (fr:Int))),(6,.val (.int .i64 (i:Int))),(7,.val (.string ⟨⟨x⟩⟩))],H:=[.own 53 0 2 A out.length c (lsV out)] }) (fun x=>x.length) (fun _=>rfl) ?start ?round
      case start =>
       intro a W rep
       exact⟨s2,⟨rfl,hl2⟩,rep.le hF (by (simp only[go_sem,lk,Nat.reduceBEq,reduceLT,reduceAdd] <;> try simp))⟩
      case round =>
       rintro s1 ⟨h1,h2⟩ I3 again3
       (refine Y_go 600 ?_; dsimp only[go_sem,Nat.reduceBEq,Int.reduceToNat,Nat.reduceMul,reduceAdd])
       have hsz3:(⟨⟨s1⟩⟩:ByteArray).size=s1.length:=zj02 s1
       have hsz4:(⟨s1⟩:Array UInt8).size=s1.length:=rfl
       rcases List.eq_nil_or_concat s1 with rfl | ⟨r,d,rfl⟩
       ·refine⟨fun h=>absurd (of_decide_eq_true h) (by first | (rw[hsz3]; simp) | simp),fun _=>⟨fun h=>absurd (of_decide_eq_true h) (by first | (rw[hsz3]; simp) | simp),fun _=>⟨((n+1:Nat):Int),ArOk.to (by omega) (by omega) (by omega),((i+1:Nat):Int),ArOk.to (by omega) (by omega) (by omega),((i+1:Nat):Int),ArOk.to (by omega) (by omega) (by omega),zj01 fun a W rep=>again ⟨i+1,i+1,n+1,out++say,A,c⟩ (hok A c) (by show t.length+1 - (i+1) < t.length+1 - i; omega) a W ?_⟩⟩⟩
        have hsay:say=[]:=by rw[hsay,← h1]; rfl
        subst hsay
        exact rep.lq
       ·rw[List.concat_eq_append] at *
        have hl:(r++[d]).length=r.length+1:=by simp
        have hk:((r.length:Nat):Int).toNat=r.length:=by omega
        have hd0:(⟨⟨r++[d]⟩⟩:ByteArray)[((r.length:Nat):Int).toNat]? = some d:=by rw[hk,ba_get]; simp
        have hx1:(⟨⟨r++[d]⟩⟩:ByteArray).extract 0 ((r.length:Nat):Int).toNat=⟨⟨r⟩⟩:=by rw[hk,zj1w]; simp
        have nxt:isBl d=true→∀ F,leF 1 F [(0,.val (.string ⟨⟨t⟩⟩)),(3,.own 0 0),(4,.val (.int .i64 (n:Int))),(5,.val (.int .i64 (fr:Int))),(6,.val (.int .i64 (i:Int))),(7,.val (.string ⟨⟨r⟩⟩))]→G (cxOf Tryz.prog Tryz.f10 K10 T10 R) ⟨w,w.heap.size,[],95,[]⟩ [.lend I3,.blk 6,.code (.ref 11),.blk 1,.code (.ref 16),.lend I,.blk 0,.code (.ref 19)] { F:=F,H:=[.own 53 0 2 A out.length c (lsV out)] } :=
         fun hb F hF=>zj01 fun a W rep=>again3 r ⟨by rw[← h1,zj4b,if_pos hb],by omega⟩ (by show r.length < (r++[d]).length; omega) a W (rep.le hF (by (simp only[go_sem,lk,Nat.reduceBEq,reduceLT,reduceAdd] <;> try simp)))
        refine⟨fun _=>⟨(r.length:Int),ArOk.toSub (by omega) (by omega) (by omega),by omega,d,hd0,fun e=>⟨(r.length:Int),ArOk.toSub (by omega) (by omega) (by omega),⟨by omega,by omega,by omega⟩,?_⟩,fun e=>⟨(r.length:Int),ArOk.toSub (by omega) (by omega) (by omega),by omega,d,hd0,fun e2=>⟨(r.length:Int),ArOk.toSub (by omega) (by omega) (by omega),⟨by omega,by omega,by omega⟩,?_⟩,fun e2=>?_⟩⟩,fun h=>absurd (of_decide_eq_false h) (by omega)⟩
        ·have hd:d=32:=by have:=eq_of_beq e; exact UInt8.toNat_inj.1 (by show d.toNat=32; omega)
         rw[hx1]
         exact nxt (by rw[hd]; rfl) _ (by (simp only[go_sem,lk,Nat.reduceBEq,reduceLT,reduceAdd] <;> try simp))
        ·have hd:d=9:=by have:=eq_of_beq e2; exact UInt8.toNat_inj.1 (by show d.toNat=9; omega)
         rw[hx1]
         exact nxt (by rw[hd]; rfl) _ (by (simp only[go_sem,lk,Nat.reduceBEq,reduceLT,reduceAdd] <;> try simp))
        ·have hnb:isBl d=false:=by
          unfold isBl
          rw[Bool.or_eq_false_iff]
          refine⟨beq_false_of_ne fun h=>?_,beq_false_of_ne fun h=>?_⟩ <;> subst h
          ·simp at e
          ·simp at e2
         have hend:endBl (r++[d])=r++[d]:=by rw[zj4b,if_neg (by simp[hnb])]
         have hsay:say=[(n,r++[d])]:=by
          obtain⟨a,q,ha⟩:∃ a q,r++[d]=a :: q:=by cases r with | nil=>exact⟨d,[],rfl⟩ | cons a r=>exact⟨a,r++[d],rfl⟩
          rw[hsay,← h1,hend,ha]
         subst hsay
         refine⟨fun _=>fun g=>⟨⟨by simp only[maxLen]; omega,by omega⟩,fun A1 c1=>⟨((n+1:Nat):Int),ArOk.to (by omega) (by omega) (by omega),((i+1:Nat):Int),ArOk.to (by omega) (by omega) (by omega),((i+1:Nat):Int),ArOk.to (by omega) (by omega) (by omega),zj01 fun a W rep=>again ⟨i+1,i+1,n+1,out++[(n,r++[d])],A1,c1⟩ (hok A1 c1) (by show t.length+1 - (i+1) < t.length+1 - i; omega) a W (rep.res.le ?_ ?_)⟩⟩,fun h=>absurd (of_decide_eq_false h) (by omega)⟩
         ·(simp only[go_sem,lk,Nat.reduceBEq,reduceLT,reduceAdd] <;> try simp)
         ·(simp only[go_sem,lk,Nat.reduceBEq,reduceLT,reduceAdd] <;> try simp)
          simp[lsV,lsC]
     refine zj09 (α:=B) (fun x=>x.dropWhile isBl=s.dropWhile isBl∧x.length≤t.length) (fun _=>⟨w,w.heap.size,[],95,[]⟩)
      (fun x=>{ F:=[(0,.val (.string ⟨⟨t⟩⟩)),(3,.own 0 0),(4,.val (.int .i64 (n:Int))),(5,.val (.int .i64 (fr:Int))),(6,.val (.int .i64 (i:Int))),(7,.val (.string ⟨⟨x⟩⟩))],H:=[.own 53 0 2 A out.length c (lsV out)] }) (fun x=>x.length) (fun _=>rfl) ?start ?round
     case start =>
      intro a W rep
      exact⟨s,⟨rfl,h3⟩,rep.lq⟩
     case round =>
      rintro s1 ⟨h1,h2⟩ I3 again3
      (refine Y_go 600 ?_; dsimp only[go_sem,Nat.reduceBEq,Int.reduceToNat])
      have hsz3:(⟨⟨s1⟩⟩:ByteArray).size=s1.length:=zj02 s1
      have hsz4:(⟨s1⟩:Array UInt8).size=s1.length:=rfl
      refine⟨fun h0=>?_,fun h0=>?_⟩
      ·cases s1 with
       | nil=>exact absurd (of_decide_eq_true h0) (by first | (rw[hsz3]; simp) | simp)
       | cons d r =>
        have hd0:(⟨⟨d :: r⟩⟩:ByteArray)[0]? = some d:=(ba_get (d :: r) 0).trans rfl
        have hx1:(⟨⟨d :: r⟩⟩:ByteArray).extract 1 (⟨⟨d :: r⟩⟩:ByteArray).size=⟨⟨r⟩⟩:=zj1v (d :: r) 1
        have xd:(⟨⟨d :: r⟩⟩:ByteArray).extract 1 (⟨d :: r⟩:Array UInt8).size=⟨⟨r⟩⟩:=hx1
        have hl:(d :: r).length=r.length+1:=rfl
        have nxt:isBl d=true→∀ F,leF 1 F [(0,.val (.string ⟨⟨t⟩⟩)),(3,.own 0 0),(4,.val (.int .i64 (n:Int))),(5,.val (.int .i64 (fr:Int))),(6,.val (.int .i64 (i:Int))),(7,.val (.string ⟨⟨r⟩⟩))]→G (cxOf Tryz.prog Tryz.f10 K10 T10 R) ⟨w,w.heap.size,[],95,[]⟩ [.lend I3,.blk 4,.code (.ref 12),.blk 1,.code (.ref 16),.lend I,.blk 0,.code (.ref 19)] { F:=F,H:=[.own 53 0 2 A out.length c (lsV out)] } :=
         fun hb F hF=>zj01 fun a W rep=>again3 r ⟨by rw[← h1,List.dropWhile_cons,hb]; rfl,by omega⟩ (by show r.length < (d :: r).length; omega) a W (rep.le hF (by (simp only[go_sem,lk,Nat.reduceBEq,reduceLT,reduceAdd] <;> try simp)))
        refine⟨Int.le_refl _,d,hd0,fun e=>⟨⟨by omega,by omega⟩,?_⟩,fun e=>⟨Int.le_refl _,d,hd0,fun e2=>⟨⟨by omega,by omega⟩,?_⟩,fun e2=>?_⟩⟩
        ·have hd:d=32:=by have:=eq_of_beq e; exact UInt8.toNat_inj.1 (by show d.toNat=32; omega)
         first | rw[hx1] | rw[xd]
         exact nxt (by rw[hd]; rfl) _ (by (simp only[go_sem,lk,Nat.reduceBEq,reduceLT,reduceAdd] <;> try simp))
        ·have hd:d=9:=by have:=eq_of_beq e2; exact UInt8.toNat_inj.1 (by show d.toNat=9; omega)
         first | rw[hx1] | rw[xd]
         exact nxt (by rw[hd]; rfl) _ (by (simp only[go_sem,lk,Nat.reduceBEq,reduceLT,reduceAdd] <;> try simp))
        ·have hnb:isBl d=false:=by
          unfold isBl
          rw[Bool.or_eq_false_iff]
          refine⟨beq_false_of_ne fun h=>?_,beq_false_of_ne fun h=>?_⟩ <;> subst h
          ·simp at e
          ·simp at e2
         exact tails _ (by rw[← h1,List.dropWhile_cons,hnb]; rfl) h2 _ (by (simp only[go_sem,lk,Nat.reduceBEq,reduceLT,reduceAdd] <;> try simp))
      ·have hl:s1=[]:=by
        have:=of_decide_eq_false h0
        simp only[hsz3,hsz4] at this
        exact List.length_eq_zero_iff.1 (by omega)
       subst hl
       exact tails _ h1 h2 _ (by (simp only[go_sem,lk,Nat.reduceBEq,reduceLT,reduceAdd] <;> try simp))
  have hsl:=sayP_len (accB t fr i) n
  refine⟨fun hle=>?_,fun hgt=>?_⟩
  ·have hle:i≤t.length:=by have:=of_decide_eq_true hle; omega
   rcases he with⟨_,he⟩ | ⟨e,_⟩
   ·refine⟨fun hlt=>?_,fun hge=>?_⟩
    ·have hlt:i < t.length:=by have:=of_decide_eq_true hlt; omega
     have hx:t[i]? = some t[i]:=List.getElem?_eq_getElem hlt
     generalize t[i]=d at hx
     have hk:((i:Nat):Int).toNat=i:=by omega
     refine⟨by omega,d,by rw[hk,ba_get]; exact hx,fun h=>?_,fun h=>⟨⟨by omega,by omega,by omega⟩,?_⟩⟩
     ·have hd:d ≠ 10:=by intro e; subst e; simp at h
      exact⟨((i+1:Nat):Int),ArOk.to (by omega) (by omega) (by omega),zj01 fun a W rep=>again ⟨i+1,fr,n,out,A,c⟩ ⟨by show fr≤i+1; omega,by show n≤i+1+1; omega,by show out.length≤i+1; omega,.inl ⟨by show i+1≤t.length; omega,by show linesL t=out++linesF (pieces (accB t fr (i+1)) (t.drop (i+1))) n; rw[he,Go.Asm.step_in hfr hx hd]⟩⟩ (by show t.length+1 - (i+1) < t.length+1 - i; omega) a W (rep.lq)⟩
     ·have hd : d = 10 := by have : (d.toNat : Int) = 10 := by simpa using h
                             exact UInt8.toNat_inj.1 (by show d.toNat=10; omega)
      subst hd
      rw[hext]
      exact body hle (fun A' c'=>⟨Nat.le_refl _,by show n+1≤i+1+1; omega,by show (out++sayP (accB t fr i) n).length≤i+1; rw[List.length_append]; omega,.inl ⟨by show i+1≤t.length; omega,by show linesL t=(out++sayP (accB t fr i) n)++linesF (pieces (accB t (i+1) (i+1)) (t.drop (i+1))) (n+1); rw[he,Go.Asm.step_nl hx,List.append_assoc]⟩⟩) _ (by (simp only[go_sem,lk,Nat.reduceBEq,reduceLT,reduceAdd] <;> try simp))
    ·have hil:i=t.length:=by have:=of_decide_eq_false hge; omega
     refine⟨⟨by omega,by omega,by omega⟩,?_⟩
     rw[hext]
     exact body hle (fun A' c'=>⟨Nat.le_refl _,by show n+1≤i+1+1; omega,by show (out++sayP (accB t fr i) n).length≤i+1; rw[List.length_append]; omega,.inr ⟨by show i+1=t.length+1; omega,by show linesL t=out++sayP (accB t fr i) n; rw[he,hil,Go.Asm.step_end]⟩⟩) _ (by (simp only[go_sem,lk,Nat.reduceBEq,reduceLT,reduceAdd] <;> try simp))
   ·omega
  ·have hgt:t.length < i:=by have:=of_decide_eq_false hgt; omega
   rcases he with⟨e,_⟩ | ⟨_,he⟩
   ·omega
   ·refine zj03 (vs:=[.slice A _ c]) r10 rfl rfl fun W hW=>hR _ _ ⟨?_,hW.fresh'⟩
    have h1:=hW.owns (i:=0) rfl
    rw[he]
    exact h1
end Go.Proofs.YtaiajnehnjnadaaGreatDoor
