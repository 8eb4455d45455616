/- What a text says: shuntref15.Assemble. -/
import Derived.Test.YtaiajnehnjnadaaGreatDoorMRf2
import Derived.Test.YtaiajnehnjnadaaGreatDoorMRf4
set_option linter.unusedSimpArgs false
set_option linter.unusedVariables false
set_option linter.unnecessarySimpa false
namespace Go.Proofs.YtaiajnehnjnadaaGreatDoor
open Go Go.Sx Go.Isa Go.Asm
open Nat (reduceAdd reduceLT)
set_option maxRecDepth 100000
structure A6 where
 i:Nat
 l:List Ln
 lb:List (B × Nat)
 A1:Option Addr
 c1:Nat
 A2:Option Addr
 c2:Nat
 A3:Option Addr
 c3:Nat
 A4:Option Addr
 c4:Nat
def xsV (l:List Ln):List Value:=cellsI (l.map (·.x))
def nsV (l:List Ln):List Value:=l.map fun y=>.string ⟨⟨y.name⟩⟩
def atV (l:List Ln):List Value:=l.map fun y=>.int .i64 (y.n:Int)
def asmR (t:B) (w w':World) (v:Value):Prop:=∃ (A:Option Addr) (c:Nat) (A':Option Addr) (c':Nat),v=.tuple #[.slice A (asmL t).1.length c,.slice A' (asmL t).2.1.length c',.int .i64 ((asmL t).2.2:Nat),.int .i64 (asmE (asmL t).2.2)] ∧
 World.ownsB w' w.heap.size 43 5 (.slice A (asmL t).1.length c) (asmL t).1.length (cellsI (asmL t).1)∧World.ownsB w' w.heap.size 35 2 (.slice A' (asmL t).2.1.length c') (asmL t).2.1.length (lbV (asmL t).2.1)∧Fresh w w'
def outJ (lb:List (B × Nat)) (l:List Ln) (j:Nat):List In:=outL lb (l.take j)++(l.drop j).map (·.x)
theorem outJ_zero (lb:List (B × Nat)) (l:List Ln):outJ lb l 0=l.map (·.x):=by simp[outJ,outL]
theorem outJ_end (lb:List (B × Nat)) (l:List Ln):outJ lb l l.length=outL lb l:=by simp[outJ]
theorem outJ_get {lb:List (B × Nat)} {l:List Ln} {j:Nat} {y:Ln} (hx:l[j]? = some y):outJ lb l j=outL lb (l.take j)++y.x :: (l.drop (j+1)).map (·.x)∧outJ lb l (j+1)=outL lb (l.take j)++(if y.name=[] then y.x else { y.x with imm:=(place lb y.name:Int) }) :: (l.drop (j+1)).map (·.x):=by
 have hlt:j < l.length:=(List.getElem?_eq_some_iff.1 hx).1
 have hdr:l.drop j=y :: l.drop (j+1):=by
  rw[List.drop_eq_getElem_cons hlt]
  rw[List.getElem?_eq_getElem hlt] at hx
  injection hx with hx; rw[hx]
 constructor
 ·unfold outJ; rw[hdr]; rfl
 ·unfold outJ
  rw[List.take_add_one,hx]
  simp[outL]
theorem zj52 (lb:List (B × Nat)) (l:List Ln):(outL lb l).length=l.length:=by simp[outL]
theorem set_imm (a:List In) (x:In) (b:List In) (n:Int):setn (cellsI (a++x :: b)) (a.length*5+4) (.int .i64 n)=cellsI (a++{ x with imm:=n } :: b):=by
 induction a with
 | nil=>rfl
 | cons y a ih =>
  rw[show (y :: a).length*5+4=(a.length*5+4)+1+1+1+1+1 by simp; omega]
  show Value.int .i64 y.op :: Value.int .i64 y.a :: Value.int .i64 y.b :: Value.int .i64 y.c :: Value.int .i64 y.imm :: setn (cellsI (a++x :: b)) (a.length*5+4) (.int .i64 n)=_
  rw[ih]; rfl
theorem fail13' (AL AT AN:Option Addr) (cl ct cn:Nat) (ls:List (Nat × B)) (L:List Ln) (n:Nat) (w:World) (hL:RowAt w AL (lsV ls)) (hT:RowAt w AT (atV L)) (hN:RowAt w AN (nsV L))
  (hls:ls.length≤100000) (hLl:L.length≤100000) (hb:∀ p ∈ ls,p.2.length≤90000):CallsV Tryz.prog 13 [.slice AL ls.length cl,.slice AT L.length ct,.slice AN L.length cn,.int .i64 (n:Int)] w fun v w'=>v=.tuple #[.slice none 0 0,.slice none 0 0,.int .i64 (wrongL (allN ls) L n:Nat),.int .i64 150]∧Fresh w w' :=
 fail13 AL AT AN cl ct cn ls L n w hL hT hN hls hLl hb
theorem assemble6 (t:B) (w:World) (ht:t.length≤80000):CallsV Tryz.prog 6 [.string ⟨⟨t⟩⟩] w fun v w'=>asmR t w w' v:=by
 refine zj05 (keep:=K6) (nt:=141) (svs:=[.val (.string ⟨⟨t⟩⟩)]) Tryz.func6 x6 n6 (by simp) (by simp[IsL,Is]) fun R hR=>?_
 (refine Y_go 600 ?_; dsimp only[go_sem,reduceAdd,Nat.reduceBEq])
 refine zj2a (vs:=[.string ⟨⟨t⟩⟩]) rfl (fun W hW=>lines10 t W (by omega)) fun A c=>?_
 (refine Y_go 600 ?_; dsimp only[go_sem,Nat.reduceBEq])
 have hnum:=lines_num t
 have hlen:=lines_len t
 have hll:=lines_count t
 have has:asmL t=(if wrongL (allN (linesL t)) (readL (linesL t) [] []).1 (readL (linesL t) [] []).2.2=0 then (outL (readL (linesL t) [] []).2.1 (readL (linesL t) [] []).1,(readL (linesL t) [] []).2.1,0) else ([],[],wrongL (allN (linesL t)) (readL (linesL t) [] []).1 (readL (linesL t) [] []).2.2)):=rfl
 unfold asmR at hR
 generalize asmL t=res at has hR ⊢
 generalize linesL t=ls at hnum hlen hll has ⊢
 have hres:readL ls [] []=readL ls [] []:=rfl
 generalize hrr:readL ls [] []=rr at has hres
 refine zj09 (α:=A6) (fun x=>(x.i≤ls.length∧x.l.length≤1024∧x.lb.length≤x.i∧∀ y ∈ x.l,y.n ≠ 0)∧readL (ls.drop x.i) x.l x.lb=rr) (fun _=>⟨w,w.heap.size,[],141,[]⟩)
  (fun x=>{ F:=[(0,.val (.string ⟨⟨t⟩⟩)),(6,.own 0 0),(7,.own 1 0),(8,.own 2 0),(9,.own 3 0),(10,.own 4 0),(11,.val (.int .i64 (x.i:Int)))],H:=[.own 53 0 2 A ls.length c (lsV ls),.own 43 0 5 x.A1 x.l.length x.c1 (xsV x.l),.own 35 0 2 x.A2 x.lb.length x.c2 (lbV x.lb),.own 9 0 1 x.A3 x.l.length x.c3 (nsV x.l),.own 3 0 1 x.A4 x.l.length x.c4 (atV x.l)] }) (fun x=>ls.length - x.i) (fun _=>rfl) ?start ?round
 case start =>
  intro a W rep
  refine⟨⟨0,[],[],none,0,none,0,none,0,none,0⟩,⟨⟨Nat.zero_le _,by simp,by simp,by simp⟩,hrr⟩,((((rep.adopt 7 43 5 rfl).adopt 8 35 2 rfl).adopt 9 9 1 rfl).adopt 10 3 1 rfl).le ?_ ?_⟩
  ·(simp only[go_sem,lk,Nat.reduceBEq,reduceLT,reduceAdd] <;> try simp)
  ·(simp only[go_sem,lk,Nat.reduceBEq,reduceLT,reduceAdd] <;> try simp); exact⟨rfl,rfl,rfl,rfl⟩
 case round =>
  rintro ⟨i,l,lb,A1,c1,A2,c2,A3,c3,A4,c4⟩ ⟨⟨hi,hl,hlb,hyn⟩,hread⟩ I again
  have hi:i≤ls.length:=hi
  have hl:l.length≤1024:=hl
  have hlb:lb.length≤i:=hlb
  have hyn:∀ y ∈ l,y.n ≠ 0:=hyn
  have hread:readL (ls.drop i) l lb=rr:=hread
  (refine Y_go 600 ?_; dsimp only[go_sem,Nat.reduceBEq])
  refine⟨fun hlt=>?_,fun hge=>?_⟩
  ·have hlt:i < ls.length:=by have:=of_decide_eq_true hlt; omega
   have hi1:((i:Nat):Int).toNat=i:=by omega
   have hdr:ls.drop i=ls[i] :: ls.drop (i+1):=List.drop_eq_getElem_cons hlt
   have hn0:=hnum _ (List.getElem_mem hlt)
   have hpl:=hlen _ (List.getElem_mem hlt)
   have cl:∀ j v,j < 2→(lsC ls[i])[j]? = some v→(lsV ls)[i*2+j]? = some v:=fun j v hj hv=>by rw[ls_get hlt hj]; exact hv
   generalize ls[i]=p at hdr hn0 hpl cl
   obtain⟨n,s⟩:=p
   simp only at hn0 hpl
   rw[hdr] at hread
   have c1':=cl 1 _ (by omega) rfl
   have c0':=cl 0 _ (by omega) rfl
   rw[hi1]
   refine⟨⟨by omega,by omega⟩,_,c1',?_⟩
   refine zj00 (vs:=[.string ⟨⟨s⟩⟩]) rfl (fun W hW=>told11 s W (by omega)) fun v hv=>⟨.tup [.val (.string ⟨⟨(toldV s).1⟩⟩),.val (.bool (toldV s).2)],by rw[hv]; simp[Is,IsL],?_⟩
   have htv:=zj4f s
   generalize toldV s=tv at htv
   obtain⟨tn,tb⟩:=tv
   simp only at htv
   (refine Y_go 600 ?_; dsimp only[go_sem,Nat.reduceBEq])
   have wrongR:rr=(l,lb,n)→∀ F H,denAll H F [2,3,4,5]=some [.slice none 0 0,.slice none 0 0,.int .i64 (wrongL (allN ls) l n:Nat),.int .i64 150]→RetG (cxOf Tryz.prog Tryz.f6 K6 T6 R) ⟨w,w.heap.size,[],141,[]⟩ { F:=F,H:=H }:=fun e F H hd=>by
    have hne:=wrongL_ne (allN ls) l n hyn hn0
    rw[e] at has
    simp only at has
    rw[if_neg hne] at has
    subst has
    refine zj03 (vs:=[_,_,_,_]) r6 rfl hd fun W hW=>hR _ _ ⟨none,0,none,0,?_,zj17 _ _ _ _,zj17 _ _ _ _,hW.fresh'⟩
    simp[asmE,hne,tupOf]
   refine⟨fun h1=>?_,fun h1=>?_⟩
   ·rw[if_pos h1] at htv
    have hrd:readL ((n,s) :: ls.drop (i+1)) l lb=if tn ∈ lb.map (·.1) then (l,lb,n) else readL (ls.drop (i+1)) l (lb++[(tn,l.length)]):=by
     conv=>lhs; unfold readL
     rw[htv]
    rw[hrd] at hread
    refine zj00 (vs:=[.slice A2 lb.length c2,.string ⟨⟨tn⟩⟩]) rfl (fun W hW=>find12 A2 c2 lb tn W (hW.rowAt (i:=2) rfl) (by omega)) fun v hv=>⟨.val (.int .i64 (fixI lb tn)),by rw[hv]; simp[Is],?_⟩
    have hfx:=zj4d lb tn
    generalize fixI lb tn=q at hfx
    (refine Y_go 600 ?_; dsimp only[go_sem,Nat.reduceBEq,Nat.reduceMul,reduceAdd])
    refine⟨fun h2=>?_,fun h2=>?_⟩
    ·have h2:0≤q:=of_decide_eq_true h2
     have hmem:tn ∈ lb.map (·.1):=by
      rcases hfx with⟨e,_⟩ | ⟨k,hk,_,e,_⟩
      ·omega
      ·rw[← e]; exact List.mem_map_of_mem (List.getElem_mem hk)
     rw[if_pos hmem] at hread
     rw[hi1]
     refine⟨⟨by omega,by omega⟩,_,c0',?_⟩
     refine zj00 (vs:=[.slice A ls.length c,.slice A4 l.length c4,.slice A3 l.length c3,.int .i64 (n:Int)]) (R:=fun v=>v=.tuple #[.slice none 0 0,.slice none 0 0,.int .i64 (wrongL (allN ls) l n:Nat),.int .i64 150]) rfl (fun W hW=>(fail13' A A4 A3 c c4 c3 ls l n W (hW.rowAt (i:=0) rfl) (hW.rowAt (i:=4) rfl) (hW.rowAt (i:=3) rfl) (by omega) (by omega) (fun p hp=>by have:=hlen p hp; omega))) fun v hv=>⟨.tup [.val (.slice none 0 0),.val (.slice none 0 0),.val (.int .i64 (wrongL (allN ls) l n:Nat)),.val (.int .i64 150)],by rw[hv]; simp[Is,IsL],?_⟩
     (refine Y_go 600 ?_; dsimp only[go_sem,Nat.reduceBEq])
     exact wrongR hread.symm _ _ rfl
    ·have h2:¬ 0≤q:=of_decide_eq_false h2
     have hmem:tn ∉ lb.map (·.1):=by
      rcases hfx with⟨_,e⟩ | ⟨k,hk,e,_⟩
      ·exact e
      ·omega
     rw[if_neg hmem] at hread
     refine fun g=>⟨⟨by simp only[maxLen]; omega,by omega⟩,fun B1 d1=>⟨((i+1:Nat):Int),ArOk.to (by omega) (by omega) (by omega),zj01 fun a W rep=>again ⟨i+1,l,lb++[(tn,l.length)],A1,c1,B1,d1,A3,c3,A4,c4⟩ ⟨⟨hlt,hl,by simp; omega,hyn⟩,hread⟩ (by show ls.length - (i+1) < ls.length - i; omega) a W (rep.res.le ?_ ?_)⟩⟩
     ·(simp only[go_sem,lk,Nat.reduceBEq,reduceLT,reduceAdd] <;> try simp)
     ·(simp only[go_sem,lk,Nat.reduceBEq,reduceLT,reduceAdd] <;> try simp)
      simp[lbV,lbC]
   ·have htv:toldL s=none:=by rw[htv,if_neg (by simp[h1])]
    have hrd:readL ((n,s) :: ls.drop (i+1)) l lb=(match oneL s with | none=>(l,lb,n) | some (x,to)=>if 1024≤l.length then (l,lb,n) else readL (ls.drop (i+1)) (l++[⟨n,x,to⟩]) lb):=by
     conv=>lhs; unfold readL
     rw[htv]
     rfl
    rw[hrd] at hread
    rw[hi1]
    refine⟨⟨by omega,by omega⟩,_,c1',?_⟩
    cases ho:oneL s with
    | none =>
     rw[ho] at hread
     refine zj00 (vs:=[.string ⟨⟨s⟩⟩]) rfl (fun W hW=>one14 s W (by omega)) fun v hv=>⟨.tup [.agg (In.sv zeroI),.val (.string ⟨⟨[]⟩⟩),.val (.bool false)],by rw[hv,ho]; simp only[Is,IsL,oneV]; exact⟨_,⟨_,_,In.is _ zeroI,⟨_,_,rfl,⟨_,_,rfl,rfl,rfl⟩,rfl⟩,rfl⟩,rfl⟩,?_⟩
     (refine Y_go 600 ?_; dsimp only[go_sem,zeroI,In.sv,Nat.reduceBEq,reduceAdd,Nat.reduceMul])
     refine fun g=>⟨fun _=>⟨⟨by omega,by omega⟩,_,by rw[hi1]; exact c0',?_⟩,fun h=>absurd h (by decide)⟩
     refine zj00 (vs:=[.slice A ls.length c,.slice A4 l.length c4,.slice A3 l.length c3,.int .i64 (n:Int)]) (R:=fun v=>v=.tuple #[.slice none 0 0,.slice none 0 0,.int .i64 (wrongL (allN ls) l n:Nat),.int .i64 150]) rfl (fun W hW=>(fail13' A A4 A3 c c4 c3 ls l n W (hW.rowAt (i:=0) rfl) (hW.rowAt (i:=4) rfl) (hW.rowAt (i:=3) rfl) (by omega) (by omega) (fun p hp=>by have:=hlen p hp; omega))) fun v hv=>⟨.tup [.val (.slice none 0 0),.val (.slice none 0 0),.val (.int .i64 (wrongL (allN ls) l n:Nat)),.val (.int .i64 150)],by rw[hv]; simp[Is,IsL],?_⟩
     (refine Y_go 600 ?_; dsimp only[go_sem,Nat.reduceBEq])
     exact wrongR hread.symm _ _ rfl
    | some y =>
     obtain⟨x,to⟩:=y
     rw[ho] at hread
     refine zj00 (vs:=[.string ⟨⟨s⟩⟩]) rfl (fun W hW=>one14 s W (by omega)) fun v hv=>⟨.tup [.agg (In.sv x),.val (.string ⟨⟨to⟩⟩),.val (.bool true)],by rw[hv,ho]; simp only[Is,IsL,oneV]; exact⟨_,⟨_,_,In.is _ x,⟨_,_,rfl,⟨_,_,rfl,rfl,rfl⟩,rfl⟩,rfl⟩,rfl⟩,?_⟩
     (refine Y_go 600 ?_; dsimp only[go_sem,In.sv,Nat.reduceBEq,reduceAdd,Nat.reduceMul])
     refine fun g=>⟨fun h=>absurd h (by decide),fun _=>⟨fun hge=>⟨⟨by omega,by omega⟩,_,by rw[hi1]; exact c0',?_⟩,fun hlt2=>?_⟩⟩
     ·have hge:1024≤l.length:=by have:=of_decide_eq_true hge; omega
      simp only at hread
      rw[if_pos hge] at hread
      refine zj00 (vs:=[.slice A ls.length c,.slice A4 l.length c4,.slice A3 l.length c3,.int .i64 (n:Int)]) (R:=fun v=>v=.tuple #[.slice none 0 0,.slice none 0 0,.int .i64 (wrongL (allN ls) l n:Nat),.int .i64 150]) rfl (fun W hW=>(fail13' A A4 A3 c c4 c3 ls l n W (hW.rowAt (i:=0) rfl) (hW.rowAt (i:=4) rfl) (hW.rowAt (i:=3) rfl) (by omega) (by omega) (fun p hp=>by have:=hlen p hp; omega))) fun v hv=>⟨.tup [.val (.slice none 0 0),.val (.slice none 0 0),.val (.int .i64 (wrongL (allN ls) l n:Nat)),.val (.int .i64 150)],by rw[hv]; simp[Is,IsL],?_⟩
      (refine Y_go 600 ?_; dsimp only[go_sem,Nat.reduceBEq])
      exact wrongR hread.symm _ _ rfl
     ·have hlt2:¬ 1024≤l.length:=by have:=of_decide_eq_false hlt2; omega
      simp only at hread
      rw[if_neg hlt2] at hread
      refine fun g1=>⟨⟨by simp only[maxLen]; omega,by omega⟩,fun B1 d1 g2=>⟨⟨by simp only[maxLen]; omega,by omega⟩,fun B3 d3=>⟨⟨by omega,by omega⟩,_,by rw[hi1]; exact c0',fun g3=>⟨⟨by simp only[maxLen]; omega,by omega⟩,fun B4 d4=>⟨((i+1:Nat):Int),ArOk.to (by omega) (by omega) (by omega),zj01 fun a W rep=>again ⟨i+1,l++[⟨n,x,to⟩],lb,B1,d1,A2,c2,B3,d3,B4,d4⟩ ⟨⟨hlt,by simp; omega,by show lb.length≤i+1; omega,fun y hy=>?_⟩,hread⟩ (by show ls.length - (i+1) < ls.length - i; omega) a W (rep.res.le ?_ ?_)⟩⟩⟩⟩⟩
      ·rcases List.mem_append.1 hy with hy | hy
       ·exact hyn y hy
       ·rw[List.mem_singleton.1 hy]; exact hn0
      ·(simp only[go_sem,lk,Nat.reduceBEq,reduceLT,reduceAdd] <;> try simp)
      ·(simp only[go_sem,lk,Nat.reduceBEq,reduceLT,reduceAdd] <;> try simp)
       simp[xsV,nsV,atV,cellsI,In.cells]
  ·have hil:i=ls.length:=by have:=of_decide_eq_false hge; omega
   subst hil
   rw[List.drop_length] at hread
   have hread:(l,lb,0)=rr:=hread
   have htold:=zj2s ls [] [] hnum (by rw[hrr,← hread])
   rw[hrr,← hread] at htold
   simp only[List.map_nil,List.nil_append] at htold
   rw[← hread] at has
   simp only at has
   refine zj09 (α:=Nat) (fun j=>j≤l.length∧wrongL (allN ls) (l.drop j) 0=wrongL (allN ls) l 0) (fun _=>⟨w,w.heap.size,[],141,[]⟩)
    (fun j=>{ F:=[(7,.own 1 0),(8,.own 2 0),(9,.own 3 0),(10,.own 4 0),(17,.val (.int .i64 (j:Int)))],H:=[.own 53 0 2 A ls.length c (lsV ls),.own 43 0 5 A1 l.length c1 (cellsI (outJ lb l j)),.own 35 0 2 A2 lb.length c2 (lbV lb),.own 9 0 1 A3 l.length c3 (nsV l),.own 3 0 1 A4 l.length c4 (atV l)] }) (fun j=>l.length - j) (fun _=>rfl) ?start ?round
   case start =>
    intro a W rep
    exact⟨0,⟨Nat.zero_le _,rfl⟩,rep.le (by (simp only[go_sem,lk,Nat.reduceBEq,reduceLT,reduceAdd] <;> try simp)) (by (simp only[go_sem,lk,Nat.reduceBEq,reduceLT,reduceAdd] <;> try simp); rw[outJ_zero]; rfl)⟩
   case round =>
    rintro j ⟨hj,hw⟩ I2 again2
    (refine Y_go 600 ?_; dsimp only[go_sem,Nat.reduceBEq])
    have hj1:((j:Nat):Int).toNat=j:=by omega
    refine⟨fun hlt=>?_,fun hge=>?_⟩
    ·have hlt:j < l.length:=by have:=of_decide_eq_true hlt; omega
     have hx:l[j]? = some l[j]:=List.getElem?_eq_getElem hlt
     have hdr:l.drop j=l[j] :: l.drop (j+1):=List.drop_eq_getElem_cons hlt
     have hy0:=hyn _ (List.getElem_mem hlt)
     generalize l[j]=y at hx hdr hy0
     have cj:(nsV l)[((j:Nat):Int).toNat*1]? = some (.string ⟨⟨y.name⟩⟩):=by rw[hj1,Nat.mul_one,nsV,List.getElem?_map,hx]; rfl
     have ca:(atV l)[((j:Nat):Int).toNat*1]? = some (.int .i64 (y.n:Int)):=by rw[hj1,Nat.mul_one,atV,List.getElem?_map,hx]; rfl
     obtain⟨ho1,ho2⟩:=outJ_get (lb:=lb) hx
     have hstep:wrongL (allN ls) (y :: l.drop (j+1)) 0=if y.name ≠ []∧y.name ∉ allN ls then y.n else wrongL (allN ls) (l.drop (j+1)) 0:=rfl
     rw[hdr,hstep] at hw
     refine⟨⟨by omega,by omega⟩,_,cj,fun hne=>⟨⟨by omega,by omega⟩,_,cj,?_⟩,fun hem=>⟨((j+1:Nat):Int),ArOk.to (by omega) (by omega) (by omega),?_⟩⟩
     ·have hne:(!decide (y.name=[]))=true:=(strNeq y.name []).symm.trans hne
      have hne:y.name ≠ []:=by simpa using hne
      refine zj00 (vs:=[.slice A2 lb.length c2,.string ⟨⟨y.name⟩⟩]) rfl (fun W hW=>find12 A2 c2 lb y.name W (hW.rowAt (i:=2) rfl) (by omega)) fun v hv=>⟨.val (.int .i64 (fixI lb y.name)),by rw[hv]; simp[Is],?_⟩
      have hfx:=zj4d lb y.name
      generalize fixI lb y.name=q at hfx
      (refine Y_go 600 ?_; dsimp only[go_sem,Nat.reduceBEq])
      refine⟨fun hq=>⟨⟨by omega,by omega⟩,_,ca,?_⟩,fun hq=>?_⟩
      ·have hq:q < 0:=of_decide_eq_true hq
       have hno:y.name ∉ allN ls:=by
        rcases hfx with⟨_,e⟩ | ⟨k,hk,e,_⟩
        ·rw[htold] at e; exact e
        ·omega
       rw[if_pos ⟨hne,hno⟩] at hw
       rw[← hw,if_neg hy0] at has
       subst has
       refine zj03 (vs:=[_,_,_,_]) r6 rfl rfl fun W hW=>hR _ _ ⟨none,0,none,0,?_,zj17 _ _ _ _,zj17 _ _ _ _,hW.fresh'⟩
       simp[asmE,hy0,tupOf]
      ·have hq:¬ q < 0:=of_decide_eq_false hq
       obtain⟨k,hk,e1,e2,e3⟩:∃ (k:Nat) (h:k < lb.length),q=k∧lb[k].1=y.name∧place lb y.name=lb[k].2:=by
        rcases hfx with⟨e,_⟩ | h
        ·omega
        ·exact h
       subst e1
       have cb:(lbV lb)[((k:Nat):Int).toNat*2+1]? = some (.int .i64 (place lb y.name:Int)):=by
        rw[show ((k:Nat):Int).toNat=k by omega,lb_get hk (by omega),e3]; rfl
       have hin:y.name ∈ allN ls:=by
        rw[← htold,← e2]; exact List.mem_map_of_mem (List.getElem_mem hk)
       rw[if_neg (by rintro ⟨_,h⟩; exact h hin)] at hw
       have hol:(outL lb (l.take j)).length=j:=by rw[zj52,List.length_take]; omega
       have hset:=set_imm (outL lb (l.take j)) y.x ((l.drop (j+1)).map (·.x)) (place lb y.name:Int)
       rw[hol] at hset
       have hoe:setn (cellsI (outJ lb l j)) (((j:Nat):Int).toNat*5+4) (.int .i64 (place lb y.name:Int))=cellsI (outJ lb l (j+1)):=by
        rw[hj1,ho1,ho2,if_neg hne]; exact hset
       have hlen5:(cellsI (outJ lb l j)).length=l.length*5:=by
        rw[zj48]; congr 1; unfold outJ; rw[List.length_append,hol,List.length_map,List.length_drop]; omega
       refine⟨⟨by omega,by omega⟩,_,cb,⟨by omega,by omega⟩,by rw[hlen5]; omega,((j+1:Nat):Int),ArOk.to (by omega) (by omega) (by omega),?_⟩
       rw[hoe]
       exact zj01 fun a W rep=>again2 (j+1) ⟨hlt,hw⟩ (by show l.length - (j+1) < l.length - j; omega) a W (rep.lq)
     ·have hem:(!decide (y.name=[]))=false:=(strNeq y.name []).symm.trans hem
      have hem:y.name=[]:=by simpa using hem
      rw[if_neg (by rintro ⟨h,_⟩; exact h hem)] at hw
      have hoe:outJ lb l j=outJ lb l (j+1):=by rw[ho1,ho2,if_pos hem]
      exact zj01 fun a W rep=>again2 (j+1) ⟨hlt,hw⟩ (by show l.length - (j+1) < l.length - j; omega) a W (rep.le (by (simp only[go_sem,lk,Nat.reduceBEq,reduceLT,reduceAdd] <;> try simp)) (by rw[hoe]; (simp only[go_sem,lk,Nat.reduceBEq,reduceLT,reduceAdd] <;> try simp)))
    ·have hjl:j=l.length:=by have:=of_decide_eq_false hge; omega
     subst hjl
     rw[List.drop_length] at hw
     have hw0:wrongL (allN ls) l 0=0:=hw.symm
     rw[if_pos hw0] at has
     subst has
     rw[outJ_end]
     refine zj03 (vs:=[.slice A1 l.length c1,.slice A2 lb.length c2,.int .i64 0,.int .i64 0]) r6 rfl rfl fun W hW=>hR _ _ ⟨A1,c1,A2,c2,?_,?_,hW.owns (i:=2) rfl,hW.fresh'⟩
     ·simp only[zj52]; rfl
     ·have:=hW.owns (i:=1) rfl
      simp only[zj52]
      exact this
end Go.Proofs.YtaiajnehnjnadaaGreatDoor
