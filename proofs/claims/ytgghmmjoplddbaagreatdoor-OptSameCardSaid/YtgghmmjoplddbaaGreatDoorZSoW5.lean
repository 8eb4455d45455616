/- solo: Run. -/
import Derived.Test.YtgghmmjoplddbaaGreatDoorZSoW3
import Derived.Test.YtgghmmjoplddbaaGreatDoorZAlvP
set_option linter.unusedSimpArgs false
set_option linter.unusedVariables false
set_option linter.unnecessarySimpa false
namespace Go.Proofs.YtgghmmjoplddbaaGreatDoor
open Go Go.Sx Go.Isa Go.Lint
open Nat (reduceAdd reduceLT)
set_option maxRecDepth 100000
theorem heapJoin {E:Env} {H H2 H2':List SO} {W W':World} {nt:Nat} {mk:List Nat} (h:HeapOk E H W) (k:HeapOk ⟨W,W.heap.size,[],nt,mk⟩ H2 W') (hfp:H2'.map SO.fp=H2.map SO.fp) (he:∀ e ∈ H2',EntryOk (H++H2') (fun g=>W'.heap[g]?) e):HeapOk E (H++H2') W':=by
 have old1:∀ j,E.old j→Env.old ⟨W,W.heap.size,[],nt,mk⟩ j:=fun j hj=>⟨Nat.lt_of_lt_of_le hj.1 h.floor,by simp⟩
 have fr2:∀ e ∈ H2',∀ g,e.fp=some g→W.heap.size≤g∧g < W'.heap.size:=fun e hm g hg=>by
  have:some g ∈ H2.map SO.fp:=by rw[← hfp,← hg]; exact List.mem_map_of_mem hm
  obtain⟨e2,h2,h3⟩:=List.mem_map.1 this
  obtain⟨h4,h5⟩:=k.fr h2 h3
  refine⟨Nat.le_of_not_lt fun hl=>h5 ⟨hl,by simp⟩,h4⟩
 refine HeapOk.mk' (h.keep.trans (k.keep.mono old1)) (Nat.le_trans h.floor k.floor) (fun e hm=>?_) (fun e hm g hg=>?_) ?_
 ·rcases List.mem_append.1 hm with h1 | h1
  ·exact (h.ent h1).mono (HExt.app _ _) fun g hg=>k.keep.block g ⟨(h.fr h1 hg).1,by simp⟩
  ·exact he e h1
 ·rcases List.mem_append.1 hm with h1 | h1
  ·exact⟨Nat.lt_of_lt_of_le (h.fr h1 hg).1 k.floor,(h.fr h1 hg).2⟩
  ·obtain⟨h2,h3⟩:=fr2 e h1 g hg
   exact⟨h3,fun ho=>absurd (Nat.lt_of_lt_of_le ho.1 h.floor) (by omega)⟩
 ·rw[List.pairwise_append]
  refine⟨h.apart,?_,fun e he' e2 he2 g hg hg2=>?_⟩
  ·have h1:(H2.map SO.fp).Pairwise fun x y=>∀ g,x=some g→y ≠ some g:=List.pairwise_map.2 k.apart
   rw[← hfp,List.pairwise_map] at h1
   exact h1
  ·have h1:=(h.fr he' hg).1
   have h2:=(fr2 e2 he2 g hg2).1
   omega
theorem ret_rv0 {P:Program} {fn:Func} {keep:List Nat} {tab:Nat→XC} {R:Value→World→Prop} {E:Env} {s:SS} {rs:List RV} {vs:List Value} (hr:rvOf P fn.results.toList=some rs) (hm:E.marks=[])
  (hv:denR s.H s.F rs=some vs) (h:∀ W,HeapOk E s.H W→R (tupOf vs) W):RetG (cxM P fn keep tab R) E s:=by
 intro a W rep
 have hd:a.defers=[]:=by rw[rep.defers,hm]; rfl
 show LeavesInM _ _ _ _ _ _ a.defers .returning W
 rw[hd]
 exact⟨_,zj2l rep hr hv,h _ rep.heap⟩
def m0S (ws rs:List Int):Mc:=⟨ws,rs,0,0,false,[],[0,0,0,0,0,0,0,0]⟩
def SoP (l:List In) (n:Nat) (cv:Sl) (res:Oc × Nat) (q:Bool × Sz × SV × List SO):Prop :=
 SzOk n q.2.1∧q.2.1.cv=cv ∧
 (q.1=true→q.2.1.ov=false∧q.2.2.1=.own 1 0∧∃ fw,McOk (toM q.2.1 fw)∧0≤q.2.1.lf∧0≤q.2.1.bl∧q.2.1.bl+q.2.1.lf≤2000000∧res=runM l q.2.1.lf.toNat (toM q.2.1 fw)∧(q.2.1.inn=true→∃ fA fC,q.2.1.fv=⟨fA,n,fC⟩∧fw.length=n∧q.2.2.2=[.own 23 0 1 fA n fC (usV fw)])) ∧
 (q.1=false→q.2.1.ov=true∧res.1.rs=q.2.1.rs∧res.1.bl=q.2.1.bl∧erC res.1.er=q.2.1.er∧(res.2:Int)=q.2.1.lf∧res.1.ws.length=n∧((q.2.2.1=.own 1 0∧res.1.ws=q.2.1.ws)∨(∃ fA fC,q.2.2.1=.val (.slice fA n fC)∧q.2.2.2=[.own 23 0 1 fA n fC (usV res.1.ws)])))
theorem soP_end {l:List In} {n:Nat} {cv:Sl} {res:Oc × Nat} {z:Sz} {fw:List Int} {tail:List SO} (ok:SzOk n z) (hcv:z.cv=cv) (e:Int) (he:e=0∨e=1∨e=2) (k:Nat) (hres:res=(endM (toM z fw) e,k)) (hk:(k:Int)=z.lf) (ht:z.inn=true→∃ fA fC,z.fv=⟨fA,n,fC⟩∧fw.length=n∧tail=[.own 23 0 1 fA n fC (usV fw)]) :
  SoP l n cv res (false,enZ z (erC e),enW z (erC e),tail):=by
 have h0:erC e ≠ 0 ↔ e ≠ 0:=by rcases he with rfl | rfl | rfl <;> decide
 subst hres
 by_cases hc:z.inn=true∧e ≠ 0
 ·have hc2:z.inn=true∧erC e ≠ 0:=⟨hc.1,h0.2 hc.2⟩
  obtain⟨fA,fC,h1,h2,h3⟩:=ht hc.1
  have e1:endM (toM z fw) e=⟨fw,z.fr,z.bl,e⟩:=by unfold endM; rw[if_pos (show (toM z fw).inn=true∧e ≠ 0 from hc)]; rfl
  unfold enZ enW
  rw[if_pos hc2,if_pos hc2,e1]
  exact⟨⟨ok.f8,ok.f8,ok.wn⟩,hcv,fun h=>(by cases h),fun _=>⟨rfl,rfl,rfl,rfl,hk,h2,.inr ⟨fA,fC,by show SV.val z.fv.v=_; rw[h1]; rfl,h3⟩⟩⟩
 ·have hc2:¬ (z.inn=true∧erC e ≠ 0):=fun k=>hc ⟨k.1,h0.1 k.2⟩
  have e1:endM (toM z fw) e=⟨z.ws,z.rs,z.bl,e⟩:=by unfold endM; rw[if_neg (show ¬ ((toM z fw).inn=true∧e ≠ 0) from hc)]; rfl
  unfold enZ enW
  rw[if_neg hc2,if_neg hc2,e1]
  exact⟨⟨ok.r8,ok.f8,ok.wn⟩,hcv,fun h=>(by cases h),fun _=>⟨rfl,rfl,rfl,rfl,hk,ok.wn,.inl ⟨rfl,rfl⟩⟩⟩
theorem run_fuel {l:List In} {m:Mc} (h:∀ o,stepM l m ≠ .done o):runM l 0 m=(endM m 1,0):=by
 unfold runM
 cases hs:stepM l m with
 | done o=>exact absurd hs (h o)
 | stop o=>rfl
 | on m1=>rfl
theorem step_not {l:List In} {m:Mc} (h:m.pc.toNat < l.length∨m.inn=true) (o:Oc):stepM l m ≠ .done o:=by
 unfold stepM
 cases hx:l[m.pc.toNat]? with
 | none =>
  have:=List.getElem?_eq_none_iff.1 hx
  rcases h with h | h
  ·omega
  ·simp[h]
 | some x=>exact zj7p _ _ _
def zcC:List SV:=[.val (.slice none 0 0),.val (.int .u64 0),.val (.int .u64 0),.val (.int .u64 0),.val (.int .u64 0),.val (.int .u64 0),.val (.int .u64 0),.val (.int .u64 0),.val (.int .u64 0),.val (.int .i64 0),.val (.int .i64 0),.val (.int .i64 0),.val (.int .i64 0)]
def r4 (g10 g1 D lo:Nat) (rec:Loop) (tl:List SO):List SO:=.cells g10 53 zcC :: .cells g1 85 [.ptr 0 0] :: .obj D (.deferred (some [])) :: .obj lo (.loop rec) :: tl
theorem run15 (B WA:Option Addr) (bc wc:Nat) (l:List In) (ws rs:List Int) (steps:Int) (w:World) (hB:RowAt w B (cellsI l)) (hW:RowAt w WA (usV ws)) (hG:ShAt w) (h8:rs.length=8) (hwl:ws.length≤1000000) (hl:l.length≤1024) (hU:∀ v ∈ rs,isU v) (hwU:∀ v ∈ ws,isU v) :
  CallsV Tryz.prog 15 [.slice B l.length bc,.agg (rs.map uV).toArray,.int .i64 0,.slice WA ws.length wc,.int .i64 steps] w fun v w'=>Fresh w w' ∧
   (¬ (ws.length≤4096∧0≤steps∧steps≤1048576)→v=.tuple #[.agg #[.slice none 0 0,.int .u64 0,.int .u64 0,.int .u64 0,.int .u64 0,.int .u64 0,.int .u64 0,.int .u64 0,.int .u64 0,.int .i64 0,.int .i64 0,.int .i64 0,.int .i64 0],.int .i64 2]) ∧
   (ws.length≤4096∧0≤steps∧steps≤1048576→∃ A' c' pc',v=.tuple #[.agg (Value.slice A' ws.length c' :: ((runM l steps.toNat (m0S ws rs)).1.rs.map uV++[.int .i64 pc',.int .i64 ((runM l steps.toNat (m0S ws rs)).2:Nat),.int .i64 (runM l steps.toNat (m0S ws rs)).1.bl,.int .i64 (erC (runM l steps.toNat (m0S ws rs)).1.er)])).toArray,.int .i64 0] ∧
    RowAt w' A' (usV (runM l steps.toNat (m0S ws rs)).1.ws)∧(runM l steps.toNat (m0S ws rs)).1.ws.length=ws.length∧(runM l steps.toNat (m0S ws rs)).1.rs.length=8):=by
 obtain⟨a0,a1,a2,a3,a4,a5,a6,a7,rfl⟩:=ls8 h8
 refine zj3j (keep:=K15) (nt:=34) (svs:=[.val (.slice B l.length bc),.agg [.val (uV a0),.val (uV a1),.val (uV a2),.val (uV a3),.val (uV a4),.val (uV a5),.val (uV a6),.val (uV a7)],.val (.int .i64 0),.val (.slice WA ws.length wc),.val (.int .i64 steps)]) Tryz.func15 x15 n15 (by simp) (by simp[IsL,Is]) fun R hR=>?_
 (refine Y_goM 600 ?_; dsimp only[go_sem,uV,reduceAdd,Nat.reduceBEq])
 intro g6 g10
 by_cases good:ws.length≤4096∧0≤steps∧steps≤1048576
 ·refine zj0b (vs:=[.slice B l.length bc,.agg #[.int .u64 a0,.int .u64 a1,.int .u64 a2,.int .u64 a3,.int .u64 a4,.int .u64 a5,.int .u64 a6,.int .u64 a7],.int .i64 0,.slice WA ws.length wc,.int .i64 steps]) rfl (R:=fun W v W'=>∃ gm A c,v=.tuple #[.pointer (some ⟨gm,0,none⟩),.int .i64 0]∧HeapOk ⟨W,W.heap.size,[],0,[]⟩ (soF gm A ws.length c (z0S ⟨B,l.length,bc⟩ ws [a0,a1,a2,a3,a4,a5,a6,a7] steps)) W')
   (fun W hh=>(start33 B WA l.length bc wc ws [a0,a1,a2,a3,a4,a5,a6,a7] steps W (hW.keep hh.fresh') rfl hwl).mono fun v W' hv=>hv.1 ⟨hl,good⟩) fun W v W2 hh ⟨gm,A,c,hv,hk⟩=>?_
  subst hv
  refine⟨.tup [.ptr 2 0,.val (.int .i64 0)],[.cells g6 24 [.val (.int .u64 a0),.val (.int .u64 a1),.val (.int .u64 a2),.val (.int .u64 a3),.val (.int .u64 a4),.val (.int .u64 a5),.val (.int .u64 a6),.val (.int .u64 a7)],.cells g10 53 zcC]++[.cells gm 92 (soC (.own 3 0) (z0S ⟨B,l.length,bc⟩ ws [a0,a1,a2,a3,a4,a5,a6,a7] steps)),.own 23 0 1 A ws.length c (usV ws)],?_,HExt.app _ _,?_,?_⟩
  ·simp[Is,IsL,blk,nth,SO.blk]
  ·have h1:=HeapOk.back (H1:=[]) hh (by simp[scpO,scpL,scp]) hk
   exact h1.pick [2,3,0,1] (by decide)
  clear hh hk
  dsimp only[zq8m,z0S,soC,Sl.v,rsC,List.map,List.cons_append,List.nil_append,bsv]
  (refine Y_goM 600 ?_; dsimp only[go_sem,Nat.reduceBEq,reduceAdd])
  refine⟨fun h=>absurd h (by decide),fun _=>?_⟩
  refine G.le (E':=⟨w,w.heap.size,[],34,[]⟩) rfl (s':={ F:=[(27,.ptr 0 0),(10,.ptr 2 0),(12,.ptr 0 0)],H:=soF gm A ws.length c (z0S ⟨B,l.length,bc⟩ ws [a0,a1,a2,a3,a4,a5,a6,a7] steps)++[.cells g10 53 zcC] }) (fun a W rep=>(rep.pick [2,3,1] (by decide)).le (by simp only[zcC,soF,soC,rsC,bsv,z0S,Sl.v,List.map_cons,List.map_nil,List.cons_append,List.nil_append]; (simp only[go_sem,renF,renV,renVL,renO,pickH,pickE,posOf,lk,Nat.reduceBEq,reduceLT,reduceAdd] <;> try simp)) (by simp only[zcC,soF,soC,rsC,bsv,z0S,Sl.v,List.map_cons,List.map_nil,List.cons_append,List.nil_append]; (simp only[go_sem,renF,renV,renVL,renO,pickH,pickE,posOf,lk,Nat.reduceBEq,reduceLT,reduceAdd] <;> try simp))) ?_
  refine zj0b (vs:=[.pointer (some ⟨gm,0,none⟩)]) rfl (R:=fun W v W'=>∃ g1,v=.func (.func 55) #[] #[.pointer (some ⟨g1,0,none⟩)]∧HeapOk ⟨W,W.heap.size,[],4,[]⟩ [.cells g1 85 [.val (.pointer (some ⟨gm,0,none⟩))]] W') (fun W hh=>steps34 _ W) fun W v W2 hh ⟨g1,hv,hk⟩=>?_
  refine⟨.fn (.func 55) [] [.ptr 3 0],soF gm A ws.length c (z0S ⟨B,l.length,bc⟩ ws [a0,a1,a2,a3,a4,a5,a6,a7] steps)++[.cells g10 53 zcC]++[.cells g1 85 [.ptr 0 0]],?_,HExt.app _ _,?_,?_⟩
  ·rw[hv]; simp[Is,IsL,soF,blk,nth,SO.blk]
  ·refine heapJoin (H2':=[.cells g1 85 [.ptr 0 0]]) hh hk rfl fun e he=>?_
   simp only[List.mem_singleton] at he
   subst he
   obtain⟨c,hc,hL⟩:=hk.ent (e:=.cells g1 85 [.val (.pointer (some ⟨gm,0,none⟩))]) (by simp)
   refine⟨c,hc,?_⟩
   simp only[IsL,Is,soF,List.cons_append,List.nil_append,blk,nth,SO.blk] at hL ⊢
   obtain⟨v,r,rfl,rfl,e⟩:=hL
   exact⟨_,_,⟨gm,rfl,rfl⟩,rfl,e⟩
  clear hh hk hv
  (refine Y_goM 600 ?_; dsimp only[go_sem,Nat.reduceBEq])
  refine zj34 rfl rfl (gf:=55) (caps:=[.pointer (some ⟨g1,0,none⟩)]) rfl okSt ?_
  intro D lo rec hrec R' hend hjump W3 hW3
  refine zj2k (keep:=K55) (nt:=56) (E:=⟨w,w.heap.size,[],34,[]⟩) (svs:=[.val (.func (.yield lo) #[] #[]),.ptr 3 0]) Tryz.func55 x55 n55 (by simp) hW3 (by simp[IsL,Is,soF,blk,nth,SO.blk]) ?_
  have hx:∀ (z:Sz) (wv:SV) (tail:List SO),HExt (soF gm A ws.length c (z0S ⟨B,l.length,bc⟩ ws [a0,a1,a2,a3,a4,a5,a6,a7] steps)++[.cells g10 53 zcC,.cells g1 85 [.ptr 0 0]]) (soG gm A ws.length c wv z++r4 g10 g1 D lo rec tail):=fun z wv tail =>
   (HExt.front [.cells g10 53 zcC,.cells g1 85 [.ptr 0 0]] (soG_ext gm A ws.length c (.own 1 0) wv (z0S ⟨B,l.length,bc⟩ ws [a0,a1,a2,a3,a4,a5,a6,a7] steps) z) rfl).trans' (HExt.app _ ([.obj D (.deferred (some [])),.obj lo (.loop rec)]++tail))
  have stop:∀ (F:List (Nat × SV)) (z:Sz) (wv:SV) (tail:List SO),SoP l ws.length ⟨B,l.length,bc⟩ (runM l steps.toNat (m0S ws [a0,a1,a2,a3,a4,a5,a6,a7])) (false,z,wv,tail)→RetG (cxOf Tryz.prog Tryz.f55 K55 T55 R') ⟨w,w.heap.size,[],56,[]⟩ { F:=F,H:=soG gm A ws.length c wv z++r4 g10 g1 D lo rec tail }:=by
   rintro F ⟨⟨cA,cN,cC⟩,ws1,rs1,pc,lf,bl,er,⟨fA,fN,fC⟩,fr1,fp,fl,fb,fe,inn,ov⟩ wv tail ⟨⟨h1,h2,h3⟩,hcv,_,hfin⟩
   dsimp only at h1 h2 h3 hcv hfin
   obtain⟨e0,e1,e2,e3,e4,e5,e6,e7,rfl⟩:=ls8 h1
   obtain⟨q0,q1,q2,q3,q4,q5,q6,q7,rfl⟩:=ls8 h2
   obtain⟨hov,hrs,hrb,hre,hrl,hwn,hwd⟩:=hfin rfl
   generalize runM l steps.toNat (m0S ws [a0,a1,a2,a3,a4,a5,a6,a7])=res at *
   obtain⟨⟨ows,ors,obl,oer⟩,ok⟩:=res
   dsimp only at hrs hrb hre hrl hwn hwd
   subst hrs; subst hrb; subst hre; subst hrl
   refine zj01 (vs:=[]) r55 rfl rfl fun W hW=>?_
   refine hend _ _ W ?_ ?_ (HeapOk.env (E:=⟨w,w.heap.size,[],56,[]⟩) (E':=⟨w,w.heap.size,[],34,[]⟩) rfl rfl rfl hW) ?_
   ·rfl
   ·exact hx _ _ _
   clear hW
   rcases hwd with⟨rfl,rfl⟩ | ⟨fA,fC,rfl,rfl⟩
   ·(refine Y_goM 600 ?_; dsimp only[go_sem,soF,soC,Sl.v,rsC,bsv,zcC,soG,r4,reduceAdd,Nat.reduceBEq])
    exact ret_rvm (vs:=[.agg #[.slice A ws.length c,.int .u64 e0,.int .u64 e1,.int .u64 e2,.int .u64 e3,.int .u64 e4,.int .u64 e5,.int .u64 e6,.int .u64 e7,.int .i64 pc,.int .i64 (ok:Int),.int .i64 obl,.int .i64 (erC oer)],.int .i64 0]) 4 r15 rfl rfl rfl fun W hW=>hR _ _ ⟨hW.fresh',fun k=>absurd good k,fun _=>⟨A,c,pc,rfl,hW.rowAt' (i:=1) rfl,hwn,rfl⟩⟩
   ·(refine Y_goM 600 ?_; dsimp only[go_sem,soF,soC,Sl.v,rsC,bsv,zcC,soG,r4,reduceAdd,Nat.reduceBEq])
    exact ret_rvm (vs:=[.agg #[.slice fA ws.length fC,.int .u64 e0,.int .u64 e1,.int .u64 e2,.int .u64 e3,.int .u64 e4,.int .u64 e5,.int .u64 e6,.int .u64 e7,.int .i64 pc,.int .i64 (ok:Int),.int .i64 obl,.int .i64 (erC oer)],.int .i64 0]) 4 r15 rfl rfl rfl fun W hW=>hR _ _ ⟨hW.fresh',fun k=>absurd good k,fun _=>⟨fA,fC,pc,rfl,hW.rowAt' (i:=6) rfl,hwn,rfl⟩⟩
  (refine Y_go 600 ?_; dsimp only[go_sem,reduceAdd])
  refine zj36 (fun _ _ _ h=>h) ?_
  (refine Y_go 600 ?_; dsimp only[go_sem])
  refine zj08 (α:=Bool × Sz × SV × List SO) (fun q=>SoP l ws.length ⟨B,l.length,bc⟩ (runM l steps.toNat (m0S ws [a0,a1,a2,a3,a4,a5,a6,a7])) q) (fun _=>⟨w,w.heap.size,[],56,[]⟩)
   (fun q=>{ F:=[(0,.val (.func (.yield lo) #[] #[])),(1,.ptr 3 0)],H:=soG gm A ws.length c q.2.2.1 q.2.1++r4 g10 g1 D lo rec q.2.2.2 })
   (fun q=>if q.1=true then q.2.1.lf.toNat+1 else 0) (fun _=>rfl) ?start ?round
  case start =>
   intro a W rep
   refine⟨(true,z0S ⟨B,l.length,bc⟩ ws [a0,a1,a2,a3,a4,a5,a6,a7] steps,.own 1 0,[]),?_,rep.le (by (simp only[go_sem,lk,Nat.reduceBEq,reduceLT,reduceAdd] <;> try simp) <;> simp[soG,r4]) (by simp only[zcC,r4,soF,soG,soC,rsC,bsv,Sl.v,z0S,List.map_cons,List.map_nil,List.cons_append,List.nil_append]; (simp only[go_sem,lk,Nat.reduceBEq,reduceLT,reduceAdd] <;> try simp))⟩
   refine⟨⟨rfl,rfl,rfl⟩,rfl,fun _=>⟨rfl,rfl,[],⟨rfl,hU,hwU,Int.le_refl _⟩,good.2.1,Int.le_refl _,by show (0:Int)+steps≤_; omega,rfl,fun h=>by cases h⟩,fun h=>by cases h⟩
  case round =>
   rintro ⟨b,z,wv,tail⟩ ⟨ok,hcv,hrun,hfin⟩ I again
   dsimp only at ok hcv hrun hfin
   cases b with
   | false =>
    have hov:=(hfin rfl).1
    have hs:=fun F=>stop F z wv tail ⟨ok,hcv,fun h=>(by cases h),hfin⟩
    clear hrun hfin hcv again
    obtain⟨⟨cA,cN,cC⟩,ws1,rs1,pc,lf,bl,er,⟨fA,fN,fC⟩,fr1,fp,fl,fb,fe,inn,ov⟩:=z
    obtain⟨h1,h2,h3⟩:=ok
    dsimp only at h1 h2 h3 hov
    obtain⟨e0,e1,e2,e3,e4,e5,e6,e7,rfl⟩:=ls8 h1
    obtain⟨q0,q1,q2,q3,q4,q5,q6,q7,rfl⟩:=ls8 h2
    subst hov
    (refine Y_go 600 ?_; dsimp only[go_sem,soG,soC,Sl.v,rsC,bsv,r4,Nat.reduceBEq,reduceAdd])
    exact hs _
   | true =>
    obtain⟨hov,rfl,fw,hm,hl0,hb0,hbl,hres,ht2⟩:=hrun rfl
    clear hrun hfin
    have cont:∀ (b':Bool) (z':Sz) (wv':SV) (tail':List SO),SoP l ws.length ⟨B,l.length,bc⟩ (runM l steps.toNat (m0S ws [a0,a1,a2,a3,a4,a5,a6,a7])) (b',z',wv',tail')→(if b'=true then z'.lf.toNat+1 else 0) < z.lf.toNat+1→G (cxOf Tryz.prog Tryz.f55 K55 T55 R') ⟨w,w.heap.size,[],56,[]⟩ [.ops [],.code (.ref 4),.blk 1,.lend I,.blk 0] { F:=[(0,.val (.func (.yield lo) #[] #[])),(1,.ptr 3 0),(3,.val (.int .i64 z.pc))],H:=soG gm A ws.length c wv' z'++r4 g10 g1 D lo rec tail' }:=by
     intro b' z' wv' tail' hP hlt
     (refine Y_go 600 ?_; dsimp only[go_sem,Nat.reduceBEq])
     refine zj0x (C':=cxOf Tryz.prog Tryz.f55 K55 T55 R') (E:=⟨w,w.heap.size,[],34,[]⟩) (i:=5) (rec:=rec) (lno:=lo) (keep:=K15) ?_ ?_ ?_ hrec ?_ ?_ ?_ ?_ ?_ ?_
     ·rfl
     ·rfl
     ·rfl
     ·simp
     ·rfl
     ·rfl
     ·rfl
     ·exact hx _ _ _
     intro J Q' hQ' hbeg hnorm hjmp
     have hF:zj0e (fun _ _ _=>False):=fun _ _ _ h=>h
     (refine zj0c hF 600 ?_; dsimp only[go_sem,Nat.reduceBEq,setPs])
     refine zj02 fun a W rep=>hbeg _ _ rfl ?_ a W rep
     (refine zj0c hQ' 600 ?_; dsimp only[go_sem])
     refine zj0s fun a W rep=>hnorm _ rfl (HExt.setBlk (i:=5) (e:=.obj lo (.loop rec)) rfl rfl rfl) ?_ _ a W rep
     clear rep
     (refine Y_go 600 ?_; dsimp only[go_sem,Nat.reduceBEq])
     exact zj02 fun a W rep=>again (b',z',wv',tail') hP hlt a W (rep.few 6 (by (simp only[go_sem,lk,Nat.reduceBEq,reduceLT,reduceAdd] <;> try simp)))
    have hp0:0≤z.pc:=hm.p0
    have call:∀ tl,(z.inn=true→∃ fA fC,z.fv=⟨fA,ws.length,fC⟩∧fw.length=ws.length∧tl=[.own 23 0 1 fA ws.length fC (usV fw)])→(z.inn=false→tl=[])→(z.pc.toNat < l.length∨z.inn=true)→z.lf ≠ 0→G (cxOf Tryz.prog Tryz.f55 K55 T55 R') ⟨w,w.heap.size,[],56,[]⟩ [.ops [{ dst:=some 51,guard:=none,i:=.call 57 [.tmp 49,.tmp 50] }],.code (.ref 4),.blk 1,.lend I,.blk 0] { F:=[(0,.val (.func (.yield lo) #[] #[])),(1,.ptr 3 0),(3,.val (.int .i64 z.pc)),(49,.ptr 0 0),(50,.val (.int .i64 z.pc))],H:=soF gm A ws.length c { z with lf:=z.lf - 1 }++r4 g10 g1 D lo rec tl }:=by
     intro tl ht htl hin hz
     have hm1:McOk (toM { z with lf:=z.lf - 1 } fw):=hm
     have ok1:SzOk ws.length { z with lf:=z.lf - 1 }:=⟨ok.r8,ok.f8,ok.wn⟩
     have hk:z.lf.toNat=(z.lf - 1).toNat+1:=by omega
     have hgo:∀ z' fw',z'.lf=z.lf - 1→stepM l (toM { z with lf:=z.lf - 1 } fw)=.on (toM z' fw')→(runM l steps.toNat (m0S ws [a0,a1,a2,a3,a4,a5,a6,a7]))=runM l z'.lf.toNat (toM z' fw'):=fun z' fw' h1 h2=>by rw[h1,hres,hk]; exact run_on h2 _
     refine zj0b (vs:=[.pointer (some ⟨gm,0,none⟩),.int .i64 z.pc]) rfl (R:=fun W v W'=>v=.tuple #[]∧Tk ⟨W,W.heap.size,fps (soF gm A ws.length c { z with lf:=z.lf - 1 }),0,[]⟩ gm A ws.length c { z with lf:=z.lf - 1 } fw (stepM l (toM { z with lf:=z.lf - 1 } fw)) W') (fun W hh=>?_) fun W v W2 hh ⟨hv,hT⟩=>?_
     ·obtain⟨_,ov⟩:=hh.rebase 56 []
      have toE:∀ (A':Option Addr) (xs:List Value),RowAt w A' xs→RowE ⟨W,W.heap.size,fps (soF gm A ws.length c { z with lf:=z.lf - 1 }),0,[]⟩ A' xs:=fun A' xs h=>(RowAt.toE (st:=[]) h (by simp) 56 []).over (overLess 0 [] ov (by intro j hj; show _ ∈ fps _; simp only[fps,List.filterMap_append]; exact List.mem_append_left _ hj))
      exact take57 (E0:=⟨W,W.heap.size,_,0,[]⟩) gm A ws.length c { z with lf:=z.lf - 1 } ok1 good.1 l fw (toE _ _ (by show RowAt w z.cv.A _; rw[hcv]; exact hB)) (by show z.cv.n=_; rw[hcv]) hl (toE _ _ hG) hm1.u hov ⟨hb0,by show z.bl≤_; omega⟩ hp0 (hin.elim (fun h=>.inl (by show z.pc < _; omega)) .inr) (hh.lend (zj4e gm A ws.length c _) 0 [])
     subst hv
     have tup:∀ H,Is H (.tup []) (Value.tuple #[]):=fun H=>by simp only[Is,IsL]; exact⟨[],rfl,rfl⟩
     rcases hT with⟨z',t0,t1,t2,t3,t4,t5,t6,t7,t8,t9⟩ | ⟨z',A',c',t0,t1,t2,t3,t4,t5,t6,t8,t9⟩ | ⟨e,t1,t8,t9⟩
     ·refine⟨.tup [],_,tup _,HExt.front _ (zj4s gm A ws.length c _ z') rfl,hh.unlend t9 (zj4s gm A ws.length c _ z') rfl,fun a W rep=>cont true z' (.own 1 0) tl ⟨t1,t4.trans hcv,fun _=>⟨t2,rfl,fw,zj39 hm1 t8,by rw[t3]; show 0≤z.lf - 1; omega,t7,by rw[t3]; dsimp only at t6 ⊢; omega,hgo _ _ t3 t8,fun h=>by rw[t5]; exact ht (t0 h)⟩,fun h=>(by cases h)⟩ (by rw[if_pos rfl,t3]; show (z.lf - 1).toNat+1 < _; omega) a W (rep.few 6 (by (simp only[go_sem,lk,Nat.reduceBEq,reduceLT,reduceAdd] <;> try simp) <;> exact⟨rfl,rfl,rfl⟩))⟩
     ·obtain rfl:=htl t0
      have hH:=heapUnlend (nw:=[.own 23 0 1 A' ws.length c' (usV z.ws)]) hh t9 (zj4s gm A ws.length c _ z') rfl (zj4e gm A ws.length c z') (by simp[scpO,scpL,scp])
      exact⟨.tup [],_,tup _,(HExt.front (r4 g10 g1 D lo rec []) (zj4s gm A ws.length c { z with lf:=z.lf - 1 } z') rfl).trans' (HExt.app _ _),hH,fun a W rep=>cont true z' (.own 1 0) [.own 23 0 1 A' ws.length c' (usV z.ws)] ⟨t1,t4.trans hcv,fun _=>⟨t2,rfl,z.ws,zj39 hm1 t8,by rw[t3]; show 0≤z.lf - 1; omega,by rw[t5]; exact hb0,by rw[t3,t5]; dsimp only; omega,hgo _ _ t3 t8,fun _=>⟨A',c',t6,ok.wn,rfl⟩⟩,fun h=>(by cases h)⟩ (by rw[if_pos rfl,t3]; show (z.lf - 1).toNat+1 < _; omega) a W (rep.few 6 (by (simp only[go_sem,lk,Nat.reduceBEq,reduceLT,reduceAdd] <;> try simp) <;> exact⟨rfl,rfl,rfl⟩))⟩
     ·refine⟨.tup [],_,tup _,HExt.front _ (soG_ext gm A ws.length c (.own 1 0) (enW { z with lf:=z.lf - 1 } (erC e)) { z with lf:=z.lf - 1 } (enZ { z with lf:=z.lf - 1 } (erC e))) rfl,hh.unlend t9 (soG_ext gm A ws.length c (.own 1 0) _ _ _) rfl,fun a W rep=>cont false (enZ { z with lf:=z.lf - 1 } (erC e)) (enW { z with lf:=z.lf - 1 } (erC e)) tl (soP_end (z:={ z with lf:=z.lf - 1 }) (fw:=fw) ok1 hcv e (by rcases t1 with h | h <;> simp[h]) (z.lf - 1).toNat ?_ (by show (((z.lf - 1).toNat:Nat):Int)=z.lf - 1; omega) ht) (by rw[if_neg (by decide)]; omega) a W (rep.few 6 (by (simp only[go_sem,lk,Nat.reduceBEq,reduceLT,reduceAdd] <;> try simp) <;> exact⟨rfl,rfl,rfl⟩))⟩
      rw[hres,hk]
      exact zj7o t8 _
    have fuel:∀ tl,(z.inn=true→∃ fA fC,z.fv=⟨fA,ws.length,fC⟩∧fw.length=ws.length∧tl=[.own 23 0 1 fA ws.length fC (usV fw)])→(z.pc.toNat < l.length∨z.inn=true)→z.lf=0→G (cxOf Tryz.prog Tryz.f55 K55 T55 R') ⟨w,w.heap.size,[],56,[]⟩ [.ops [{ dst:=some 39,guard:=none,i:=.call 56 [.tmp 38,.const (.int .i64 190)] }],.code (.exit 0),.blk 2,.code (.ref 6),.blk 1,.lend I,.blk 0] { F:=[(38,.ptr 0 0)],H:=soF gm A ws.length c z++r4 g10 g1 D lo rec tl }:=by
     intro tl ht hin hz
     refine zj5n gm A ws.length c z ok 190 (r4 g10 g1 D lo rec tl) rfl (by rfl) ?_
     (refine Y_go 600 ?_; dsimp only[go_sem,Nat.reduceBEq])
     exact stop _ _ _ tl (soP_end ok hcv 1 (.inr (.inl rfl)) 0 (hres.trans (by rw[hz]; exact run_fuel (step_not hin))) hz.symm ht)
    have over:z.inn=false→(l.length:Int)≤z.pc→G (cxOf Tryz.prog Tryz.f55 K55 T55 R') ⟨w,w.heap.size,[],56,[]⟩ [.ops [{ dst:=some 30,guard:=none,i:=.call 56 [.tmp 29,.const (.int .i64 0)] }],.code (.exit 0),.blk 2,.code (.ref 6),.blk 1,.lend I,.blk 0] { F:=[(29,.ptr 0 0)],H:=soF gm A ws.length c z++r4 g10 g1 D lo rec [] }:=by
     intro hi hge
     refine zj5n gm A ws.length c z ok 0 (r4 g10 g1 D lo rec []) rfl (by rfl) ?_
     (refine Y_go 600 ?_; dsimp only[go_sem,Nat.reduceBEq])
     refine stop _ _ _ [] (soP_end (fw:=fw) ok hcv 0 (.inl rfl) z.lf.toNat (hres.trans (zj47 ?_ _)) (by show ((z.lf.toNat:Nat):Int)=z.lf; omega) (fun h=>by rw[hi] at h; cases h))
     unfold stepM
     show (match l[z.pc.toNat]? with | none=>_ | some x=>_)=_
     rw[List.getElem?_eq_none (by omega)]
     show (if z.inn=true then _ else _)=_
     rw[if_neg (by simp[hi])]
    clear cont stop again
    obtain⟨⟨cA,cN,cC⟩,ws1,rs1,pc,lf,bl,er,⟨fA,fN,fC⟩,fr1,fp,fl,fb,fe,inn,ov⟩:=z
    obtain⟨h1,h2,h3⟩:=ok
    dsimp only at h1 h2 h3 hov hcv call fuel over ht2 hl0 hb0 hbl hp0
    obtain⟨e0,e1,e2,e3,e4,e5,e6,e7,rfl⟩:=ls8 h1
    obtain⟨q0,q1,q2,q3,q4,q5,q6,q7,rfl⟩:=ls8 h2
    injection hcv with k1 k2 k3
    subst k1; subst k2; subst k3; subst hov
    cases inn with
    | false =>
     clear ht2
     refine G.le (E':=⟨w,w.heap.size,[],56,[]⟩) rfl (s':={ F:=[(0,.val (.func (.yield lo) #[] #[])),(1,.ptr 3 0)],H:=soG gm A ws.length c (.own 1 0) (Sz.mk ⟨cA,l.length,cC⟩ ws1 [e0,e1,e2,e3,e4,e5,e6,e7] pc lf bl er ⟨fA,fN,fC⟩ [q0,q1,q2,q3,q4,q5,q6,q7] fp fl fb fe false false)++r4 g10 g1 D lo rec [] }) (fun a W rep=>rep.le (by (simp only[go_sem,lk,Nat.reduceBEq,reduceLT,reduceAdd] <;> try simp) <;> simp[soG,r4]) (by simp only[r4,zcC,soF,soG,soC,rsC,bsv,Sl.v,List.map_cons,List.map_nil,List.cons_append,List.nil_append]; (simp only[go_sem,lk,Nat.reduceBEq,reduceLT,reduceAdd] <;> try simp))) ?_
     (refine Y_go 600 ?_; dsimp only[go_sem,soG,soC,Sl.v,rsC,bsv,r4,Nat.reduceBEq,reduceAdd])
     refine⟨fun hge a W rep=>over rfl (of_decide_eq_true hge) a W (rep.le (by (simp only[go_sem,lk,Nat.reduceBEq,reduceLT,reduceAdd] <;> try simp) <;> simp[soF,soG,r4]) (by simp only[r4,zcC,soF,soG,soC,rsC,bsv,Sl.v,List.map_cons,List.map_nil,List.cons_append,List.nil_append]; (simp only[go_sem,lk,Nat.reduceBEq,reduceLT,reduceAdd] <;> try simp))),fun hlt=>?_⟩
     have hlt:=of_decide_eq_false hlt
     have hpl:pc.toNat < l.length∨false=true:=.inl (by omega)
     exact⟨fun hz a W rep=>fuel [] (fun h=>(by cases h)) hpl (eq_of_beq hz) a W (rep.le (by (simp only[go_sem,lk,Nat.reduceBEq,reduceLT,reduceAdd] <;> try simp) <;> simp[soF,soG,r4]) (by simp only[r4,zcC,soF,soG,soC,rsC,bsv,Sl.v,List.map_cons,List.map_nil,List.cons_append,List.nil_append]; (simp only[go_sem,lk,Nat.reduceBEq,reduceLT,reduceAdd] <;> try simp))),fun hz=>⟨lf - 1,ArOk.to rfl (by omega) (by omega),fun a W rep=>call [] (fun h=>(by cases h)) (fun _=>rfl) hpl (ne_of_beq_false hz) a W (rep.le (by (simp only[go_sem,lk,Nat.reduceBEq,reduceLT,reduceAdd] <;> try simp) <;> simp[soF,soG,r4]) (by simp only[r4,zcC,soF,soG,soC,rsC,bsv,Sl.v,List.map_cons,List.map_nil,List.cons_append,List.nil_append]; (simp only[go_sem,lk,Nat.reduceBEq,reduceLT,reduceAdd] <;> try simp)))⟩⟩
    | true =>
     obtain⟨fA1,fC1,hfv,hfw,rfl⟩:=ht2 rfl
     have ht:true=true→∃ fA2 fC2,(⟨fA,fN,fC⟩:Sl)=⟨fA2,ws.length,fC2⟩∧fw.length=ws.length∧[SO.own 23 0 1 fA1 ws.length fC1 (usV fw)]=[.own 23 0 1 fA2 ws.length fC2 (usV fw)]:=fun _=>⟨fA1,fC1,hfv,hfw,rfl⟩
     (refine Y_go 600 ?_; dsimp only[go_sem,soG,soC,Sl.v,rsC,bsv,r4,Nat.reduceBEq,reduceAdd])
     exact⟨fun _=>⟨fun hz a W rep=>fuel _ ht (.inr rfl) (eq_of_beq hz) a W (rep.le (by (simp only[go_sem,lk,Nat.reduceBEq,reduceLT,reduceAdd] <;> try simp) <;> simp[soF,soG,r4]) (by simp only[r4,zcC,soF,soG,soC,rsC,bsv,Sl.v,List.map_cons,List.map_nil,List.cons_append,List.nil_append]; (simp only[go_sem,lk,Nat.reduceBEq,reduceLT,reduceAdd] <;> try simp))),fun hz=>⟨lf - 1,ArOk.to rfl (by omega) (by omega),fun a W rep=>call _ ht (fun h=>(by cases h)) (.inr rfl) (ne_of_beq_false hz) a W (rep.le (by (simp only[go_sem,lk,Nat.reduceBEq,reduceLT,reduceAdd] <;> try simp) <;> simp[soF,soG,r4]) (by simp only[r4,zcC,soF,soG,soC,rsC,bsv,Sl.v,List.map_cons,List.map_nil,List.cons_append,List.nil_append]; (simp only[go_sem,lk,Nat.reduceBEq,reduceLT,reduceAdd] <;> try simp)))⟩⟩,fun _=>⟨fun hz a W rep=>fuel _ ht (.inr rfl) (eq_of_beq hz) a W (rep.le (by (simp only[go_sem,lk,Nat.reduceBEq,reduceLT,reduceAdd] <;> try simp) <;> simp[soF,soG,r4]) (by simp only[r4,zcC,soF,soG,soC,rsC,bsv,Sl.v,List.map_cons,List.map_nil,List.cons_append,List.nil_append]; (simp only[go_sem,lk,Nat.reduceBEq,reduceLT,reduceAdd] <;> try simp))),fun hz=>⟨lf - 1,ArOk.to rfl (by omega) (by omega),fun a W rep=>call _ ht (fun h=>(by cases h)) (.inr rfl) (ne_of_beq_false hz) a W (rep.le (by (simp only[go_sem,lk,Nat.reduceBEq,reduceLT,reduceAdd] <;> try simp) <;> simp[soF,soG,r4]) (by simp only[r4,zcC,soF,soG,soC,rsC,bsv,Sl.v,List.map_cons,List.map_nil,List.cons_append,List.nil_append]; (simp only[go_sem,lk,Nat.reduceBEq,reduceLT,reduceAdd] <;> try simp)))⟩⟩⟩
 ·refine zj00 (vs:=[.slice B l.length bc,.agg #[.int .u64 a0,.int .u64 a1,.int .u64 a2,.int .u64 a3,.int .u64 a4,.int .u64 a5,.int .u64 a6,.int .u64 a7],.int .i64 0,.slice WA ws.length wc,.int .i64 steps]) rfl (R:=fun v=>v=.tuple #[.pointer none,.int .i64 2]) (fun W hh=>(start33 B WA l.length bc wc ws [a0,a1,a2,a3,a4,a5,a6,a7] steps W (hW.keep hh.fresh') rfl hwl).mono fun v W' hv=>hv.2 fun k=>good k.2) fun v hv=>⟨.tup [.val (.pointer none),.val (.int .i64 2)],by rw[hv]; simp[Is,IsL],?_⟩
  (refine Y_goM 600 ?_; dsimp only[go_sem,Nat.reduceBEq,reduceAdd])
  refine⟨fun _=>?_,fun h=>absurd h (by decide)⟩
  exact ret_rv0 (vs:=[.agg #[.slice none 0 0,.int .u64 0,.int .u64 0,.int .u64 0,.int .u64 0,.int .u64 0,.int .u64 0,.int .u64 0,.int .u64 0,.int .i64 0,.int .i64 0,.int .i64 0,.int .i64 0],.int .i64 2]) r15 rfl rfl fun W hW=>hR _ _ ⟨hW.fresh',fun _=>rfl,fun k=>absurd k good⟩
theorem us_at {w:World} {A:Option Addr} {xs:List Int} {nt i:Nat} (h:RowAt w A (usV xs)) (hi:i < xs.length):CellAt ⟨w,w.heap.size,[],nt,[]⟩ A (i*1) (.int .u64 (xs.getD i 0)) :=
 h.cell (usV_get hi)
theorem great14 (A B:Option Addr) (n c m d:Nat) (a0 a1 a2 a3 a4 a5 a6 a7 pc steps:Int) (w:World) :
  CallsV Tryz.prog 14 [.agg #[.slice A n c,.int .u64 a0,.int .u64 a1,.int .u64 a2,.int .u64 a3,.int .u64 a4,.int .u64 a5,.int .u64 a6,.int .u64 a7,.int .i64 pc,.slice B m d,.int .i64 steps]] w fun v w'=>(v=.int .i64 1∨(v=.int .i64 0∧m≤5000))∧Fresh w w':=by
 refine zj03 (keep:=K14) (nt:=23) (svs:=[.agg [.val (.slice A n c),.val (.int .u64 a0),.val (.int .u64 a1),.val (.int .u64 a2),.val (.int .u64 a3),.val (.int .u64 a4),.val (.int .u64 a5),.val (.int .u64 a6),.val (.int .u64 a7),.val (.int .i64 pc),.val (.slice B m d),.val (.int .i64 steps)]]) Tryz.func14 x14 n14 (by simp) (by simp[IsL,Is]) fun R hR=>?_
 (refine Y_go 600 ?_; dsimp only[go_sem,Nat.reduceAdd,Nat.reduceBEq])
 intro g
 have one:∀ F H,denAll H F [2]=some [.int .i64 1]→RetG (cxOf Tryz.prog Tryz.f14 K14 T14 R) ⟨w,w.heap.size,[],23,[]⟩ { F:=F,H:=H }:=fun F H hd =>
  zj01 (vs:=[.int .i64 1]) r14 rfl hd fun W hW=>hR _ _ ⟨.inl rfl,hW.fresh'⟩
 refine⟨fun _=>one _ _ rfl,fun hm=>?_⟩
 have hm:m≤5000:=by have:=of_decide_eq_false hm; omega
 have nul:∀ F H,denAll H F [2]=some [.int .i64 0]→RetG (cxOf Tryz.prog Tryz.f14 K14 T14 R) ⟨w,w.heap.size,[],23,[]⟩ { F:=F,H:=H }:=fun F H hd =>
  zj01 (vs:=[.int .i64 0]) r14 rfl hd fun W hW=>hR _ _ ⟨.inr ⟨rfl,hm⟩,hW.fresh'⟩
 repeat' (first | exact one _ _ rfl | exact nul _ _ rfl | refine⟨fun _=>?_,fun _=>?_⟩)
theorem better17 (A B:Option Addr) (c d:Nat) (xs:List Int) (a0 a1 a2 a3 a4 a5 a6 a7 p q la lb bl er:Int) (w:World) (hA:RowAt w A (usV xs)) (hB:RowAt w B (usV xs)) (hl:la≤lb) (hx:xs.length≤1000000) :
  CallsV Tryz.prog 17 [.agg #[.slice A xs.length c,.int .u64 a0,.int .u64 a1,.int .u64 a2,.int .u64 a3,.int .u64 a4,.int .u64 a5,.int .u64 a6,.int .u64 a7,.int .i64 p,.int .i64 la,.int .i64 bl,.int .i64 er],
   .agg #[.slice B xs.length d,.int .u64 a0,.int .u64 a1,.int .u64 a2,.int .u64 a3,.int .u64 a4,.int .u64 a5,.int .u64 a6,.int .u64 a7,.int .i64 q,.int .i64 lb,.int .i64 bl,.int .i64 er]] w fun v w'=>v=.bool true∧Fresh w w':=by
 refine zj03 (keep:=K17) (nt:=59) (svs:=[.agg [.val (.slice A xs.length c),.val (.int .u64 a0),.val (.int .u64 a1),.val (.int .u64 a2),.val (.int .u64 a3),.val (.int .u64 a4),.val (.int .u64 a5),.val (.int .u64 a6),.val (.int .u64 a7),.val (.int .i64 p),.val (.int .i64 la),.val (.int .i64 bl),.val (.int .i64 er)],
  .agg [.val (.slice B xs.length d),.val (.int .u64 a0),.val (.int .u64 a1),.val (.int .u64 a2),.val (.int .u64 a3),.val (.int .u64 a4),.val (.int .u64 a5),.val (.int .u64 a6),.val (.int .u64 a7),.val (.int .i64 q),.val (.int .i64 lb),.val (.int .i64 bl),.val (.int .i64 er)]]) Tryz.func17 x17 n17 (by simp) (by simp[IsL,Is]) fun R hR=>?_
 (refine Y_go 600 ?_; dsimp only[go_sem,Nat.reduceAdd,Nat.reduceBEq])
 intro g1 g2
 refine⟨fun h=>absurd h (by simp),fun _=>⟨fun h=>absurd h (by simp),fun _=>⟨fun h=>absurd h (by simp),fun _=>⟨fun h=>absurd h (by simp),fun _=>⟨fun h=>absurd h (by simp; omega),fun _=>?_⟩⟩⟩⟩⟩
 refine zj08 (α:=Nat) (fun i=>i≤xs.length) (fun _=>⟨w,w.heap.size,[],59,[]⟩) (fun i=>{ F:=[(2,.ptr 0 0),(3,.ptr 1 0),(43,.val (.int .i64 xs.length)),(44,.val (.int .i64 (i:Int)))],H:=[.cells g1 53 [.val (.slice A xs.length c),.val (.int .u64 a0),.val (.int .u64 a1),.val (.int .u64 a2),.val (.int .u64 a3),.val (.int .u64 a4),.val (.int .u64 a5),.val (.int .u64 a6),.val (.int .u64 a7),.val (.int .i64 p),.val (.int .i64 la),.val (.int .i64 bl),.val (.int .i64 er)],.cells g2 53 [.val (.slice B xs.length d),.val (.int .u64 a0),.val (.int .u64 a1),.val (.int .u64 a2),.val (.int .u64 a3),.val (.int .u64 a4),.val (.int .u64 a5),.val (.int .u64 a6),.val (.int .u64 a7),.val (.int .i64 q),.val (.int .i64 lb),.val (.int .i64 bl),.val (.int .i64 er)]] }) (fun i=>xs.length - i) (fun _=>rfl) ?start ?round
 case start =>
  intro a W rep
  exact⟨0,Nat.zero_le _,rep.lq⟩
 case round =>
  intro i hi I again
  have hi:i≤xs.length:=hi
  (refine Y_go 600 ?_; dsimp only[go_sem,Nat.reduceBEq,Nat.reduceAdd])
  refine⟨fun hlt=>?_,fun hge=>?_⟩
  ·have hlt:i < xs.length:=by have:=of_decide_eq_true hlt; omega
   have e:((i:Nat):Int).toNat=i:=by omega
   rw[e]
   have sA:A.isSome=true:=hA.isSome (j:=i) (by rw[usV_len]; exact hlt)
   have sB:B.isSome=true:=hB.isSome (j:=i) (by rw[usV_len]; exact hlt)
   refine⟨⟨by omega,by omega,sA⟩,_,us_at hA hlt,⟨by omega,by omega,sB⟩,_,us_at hB hlt,fun h=>absurd h (by simp),fun _=>?_⟩
   refine⟨((i+1:Nat):Int),ArOk.to (by omega) (by omega) (by omega),zj02 fun a W rep=>again (i+1) (by show i+1≤_; omega) (by show _ - (i+1) < _ - i; omega) a W (rep.lq)⟩
  ·exact zj01 (vs:=[.bool true]) r17 rfl rfl fun W hW=>hR _ _ ⟨rfl,hW.fresh'⟩
end Go.Proofs.YtgghmmjoplddbaaGreatDoor
namespace Go.Proofs.YtgghmmjoplddbaaGreatDoor
open Go Go.Sx Go.Isa Go.Asm
open Nat (reduceAdd reduceLT)
set_option maxRecDepth 100000
theorem pass_bet {n:Nat} (hn:n < 5) {l:List In} (hl:l.length≤1024):Bet l (passL n l):=by
 match n,hn with
 | 0,_=>exact bet_fold hl
 | 1,_=>exact zj6h hl
 | 2,_=>exact bet_skip hl
 | 3,_=>exact bet_trim hl
 | 4,_=>exact bet_opt hl
theorem law5 (B WA:Option Addr) (bc wc:Nat) (l:List In) (ws rs:List Int) (pc steps:Int) (w:World) (hG:ShAt w) (hT:TabAt w) (hLb:LibAt w) (hB:RowAt w B (cellsI l)) (hW:RowAt w WA (usV ws)) (h8:rs.length=8) (hU:∀ v ∈ rs,isU v) (hwU:∀ v ∈ ws,isU v) :
  CallsV Tryz.prog 5 [.agg (Value.slice B l.length bc :: (rs.map uV++[.int .i64 pc,.slice WA ws.length wc,.int .i64 steps])).toArray] w fun v w'=>Fresh w w'∧v=.bool true:=by
 obtain⟨a0,a1,a2,a3,a4,a5,a6,a7,rfl⟩:=ls8 h8
 refine zj03 (keep:=K5) (nt:=81) (svs:=[.agg [.val (.slice B l.length bc),.val (uV a0),.val (uV a1),.val (uV a2),.val (uV a3),.val (uV a4),.val (uV a5),.val (uV a6),.val (uV a7),.val (.int .i64 pc),.val (.slice WA ws.length wc),.val (.int .i64 steps)]]) Tryz.func5 x5 n5 (by simp) (by simp[IsL,Is]) fun R hR=>?_
 (refine Y_go 600 ?_; dsimp only[go_sem,uV,reduceAdd,Nat.reduceBEq])
 intro g1
 refine zj00 (vs:=[]) rfl (fun W hW=>alive25 W (hG.keep hW.fresh') (hT.keep hW.fresh') (hLb.keep hW.fresh')) fun v hv=>⟨.bt,by rw[hv]; simp[Is],?_⟩
 (refine Y_go 600 ?_; dsimp only[go_sem,Nat.reduceBEq,reduceAdd])
 have done:∀ (W0:World) (F:List (Nat × SV)) (H:List SO),Fresh w W0→denAll H F [2]=some [.bool true]→RetG (cxOf Tryz.prog Tryz.f5 K5 T5 R) ⟨W0,W0.heap.size,[],81,[]⟩ { F:=F,H:=H }:=fun W0 F H hf hd =>
  zj01 (vs:=[.bool true]) Go.Proofs.YtgghmmjoplddbaaGreatDoor.r5 rfl hd fun W hW=>hR _ _ ⟨Fresh.tr hf hW.fresh',rfl⟩
 refine zj00 (vs:=[.agg #[.slice B l.length bc,.int .u64 a0,.int .u64 a1,.int .u64 a2,.int .u64 a3,.int .u64 a4,.int .u64 a5,.int .u64 a6,.int .u64 a7,.int .i64 pc,.slice WA ws.length wc,.int .i64 steps]]) rfl (R:=fun v=>v=.int .i64 1∨(v=.int .i64 0∧ws.length≤5000)) (fun W hW=>great14 _ _ _ _ _ _ _ _ _ _ _ _ _ _ _ _ W) fun v hv=>?_
 rcases hv with rfl | ⟨rfl,hwl⟩
 ·refine⟨.val (.int .i64 1),by simp[Is],?_⟩
  (refine Y_go 600 ?_; dsimp only[go_sem,Nat.reduceBEq,reduceAdd])
  exact⟨fun _=>done w _ _ (Fresh.refl _) rfl,fun h=>absurd h (by decide)⟩
 refine⟨.val (.int .i64 0),by simp[Is],?_⟩
 (refine Y_go 600 ?_; dsimp only[go_sem,Nat.reduceBEq,reduceAdd])
 refine⟨fun h=>absurd h (by decide),fun _=>⟨fun _=>done w _ _ (Fresh.refl _) rfl,fun hl=>?_⟩⟩
 have hl:l.length≤100:=by have:=of_decide_eq_false hl; omega
 have adr1:∀ {g:Nat} {H:List SO} {i:Nat},blk H i=some g→∀ v,Is H (.ptr i 0) v→Is H (.adr (some ⟨g,0,none⟩) 0) v:=by
  intro g H i hb v h
  simp only[Is] at h ⊢
  obtain⟨g',h1,h2⟩:=h
  rw[hb] at h1; injection h1 with h1; subst h1
  rw[h2]; rfl
 refine G.free (F':=[(28,.val (.slice B l.length bc)),(30,.agg [.val (.int .u64 a0),.val (.int .u64 a1),.val (.int .u64 a2),.val (.int .u64 a3),.val (.int .u64 a4),.val (.int .u64 a5),.val (.int .u64 a6),.val (.int .u64 a7)]),(32,.val (.slice WA ws.length wc)),(34,.val (.int .i64 steps)),(1,.adr (some ⟨g1,0,none⟩) 0),(3,.bt)]) (fun a W rep=>(zj7a 1 rep (x:=.ptr 0 0) (y:=.adr (some ⟨g1,0,none⟩) 0) rfl (adr1 rfl)).lq) (fun a W rep=>rep.lq) fun W0 hW0 ov0=>?_
 have hw0:Fresh w W0:=HeapOk.fresh' (nt:=81) (mk:=[]) hW0
 have rX:RowAt W0 (some ⟨g1,0,none⟩) [.slice B l.length bc,.int .u64 a0,.int .u64 a1,.int .u64 a2,.int .u64 a3,.int .u64 a4,.int .u64 a5,.int .u64 a6,.int .u64 a7,.int .i64 pc,.slice WA ws.length wc,.int .i64 steps]:=(HeapOk.cellsAt (i:=0) hW0 rfl rfl)
 clear hW0 ov0
 show G (cxOf Tryz.prog Tryz.f5 K5 T5 R) ⟨W0,W0.heap.size,[],81,[]⟩ _ _
 have hB0:=hB.keep hw0
 have hW1:=hW.keep hw0
 have hG0:ShAt W0:=hG.keep hw0
 refine zj1i (vs:=[.slice B l.length bc,.agg #[.int .u64 a0,.int .u64 a1,.int .u64 a2,.int .u64 a3,.int .u64 a4,.int .u64 a5,.int .u64 a6,.int .u64 a7],.int .i64 0,.slice WA ws.length wc,.int .i64 steps]) rfl (R:=fun W v W'=>Fresh W W'∧_) (fun W hh=>run15 B WA bc wc l ws [a0,a1,a2,a3,a4,a5,a6,a7] steps W (hB0.keep hh.fresh') (hW1.keep hh.fresh') (hG0.keep hh.fresh') rfl (by omega) (by omega) hU hwU) (fun _ _ _ h=>h.1) fun W2 v W3 hW2 ⟨k3,hbad,hgood⟩ _=>?_
 rw[show fps ([]:List SO)=[] from rfl]
 have hw3:Fresh W0 W3:=Fresh.tr hW2.fresh' k3
 by_cases good:ws.length≤4096∧0≤steps∧steps≤1048576
 rotate_left
 ·have hv:=hbad good
  subst hv
  refine⟨.tup [.agg [.val (.slice none 0 0),.val (.int .u64 0),.val (.int .u64 0),.val (.int .u64 0),.val (.int .u64 0),.val (.int .u64 0),.val (.int .u64 0),.val (.int .u64 0),.val (.int .u64 0),.val (.int .i64 0),.val (.int .i64 0),.val (.int .i64 0),.val (.int .i64 0)],.val (.int .i64 2)],by simp[Is,IsL],?_⟩
  (refine Y_go 600 ?_; dsimp only[go_sem,Nat.reduceBEq,reduceAdd])
  intro g4
  exact⟨fun _=>done W3 _ _ (Fresh.tr hw0 hw3) rfl,fun h=>absurd h (by decide)⟩
 obtain⟨A1,c1,p1,hv,hr1,hn1,hn2⟩:=hgood good
 subst hv
 have hbet:=fun (n:Nat) (hn:n < 5)=>pass_bet hn (l:=l) (by omega) steps.toNat (m0S ws [a0,a1,a2,a3,a4,a5,a6,a7]) ⟨⟨rfl,hU,hwU,Int.le_refl _⟩,rfl,rfl⟩
 generalize runM l steps.toNat (m0S ws [a0,a1,a2,a3,a4,a5,a6,a7])=res at *
 obtain⟨⟨ows,ors,obl,oer⟩,ok⟩:=res
 dsimp only at hr1 hn1 hn2 hbet
 obtain⟨o0,o1,o2,o3,o4,o5,o6,o7,rfl⟩:=ls8 hn2
 refine⟨.tup [.agg [.val (.slice A1 ws.length c1),.val (.int .u64 o0),.val (.int .u64 o1),.val (.int .u64 o2),.val (.int .u64 o3),.val (.int .u64 o4),.val (.int .u64 o5),.val (.int .u64 o6),.val (.int .u64 o7),.val (.int .i64 p1),.val (.int .i64 (ok:Int)),.val (.int .i64 obl),.val (.int .i64 (erC oer))],.val (.int .i64 0)],by simp[Is,IsL,uV],?_⟩
 (refine Y_go 600 ?_; dsimp only[go_sem,Nat.reduceBEq,reduceAdd])
 intro g4
 refine⟨fun h=>absurd h (by decide),fun _=>⟨fun _=>done W3 _ _ (Fresh.tr hw0 hw3) rfl,fun he=>?_⟩⟩
 have he:oer ≠ 1:=by
  have he:=ne_of_beq_false he
  intro h; subst h; exact he rfl
 refine G.free (F':=[(1,.adr (some ⟨g1,0,none⟩) 0),(3,.bt),(4,.adr (some ⟨g4,0,none⟩) 0),(6,.val (.int .i64 0))]) (fun a W rep=>(zj7a 4 rep (x:=.ptr 0 0) (y:=.adr (some ⟨g4,0,none⟩) 0) rfl (adr1 rfl)).lq) (fun a W rep=>rep.lq) fun W4 hW4 ov4=>?_
 have hw4:Fresh W3 W4:=HeapOk.fresh' (nt:=81) (mk:=[]) hW4
 have rY:RowAt W4 (some ⟨g4,0,none⟩) [.slice A1 ws.length c1,.int .u64 o0,.int .u64 o1,.int .u64 o2,.int .u64 o3,.int .u64 o4,.int .u64 o5,.int .u64 o6,.int .u64 o7,.int .i64 p1,.int .i64 (ok:Int),.int .i64 obl,.int .i64 (erC oer)]:=(HeapOk.cellsAt (i:=0) hW4 rfl rfl)
 clear hW4 ov4
 show G (cxOf Tryz.prog Tryz.f5 K5 T5 R) ⟨W4,W4.heap.size,[],81,[]⟩ _ _
 have hw04:Fresh W0 W4:=Fresh.tr hw3 hw4
 have hX4:=rX.keep hw04
 have hB4:=hB0.keep hw04
 have hW4:=hW1.keep hw04
 have hG4:ShAt W4:=hG0.keep hw04
 have hr4:=hr1.keep hw4
 have hw1:Fresh w W4:=Fresh.tr hw0 hw04
 refine zj08 (α:=Nat × World) (fun q=>q.1≤5∧Fresh W4 q.2) (fun q=>⟨q.2,q.2.heap.size,[],81,[]⟩) (fun q=>{ F:=[(1,.adr (some ⟨g1,0,none⟩) 0),(3,.bt),(4,.adr (some ⟨g4,0,none⟩) 0),(6,.val (.int .i64 (q.1:Int)))],H:=[] }) (fun q=>5 - q.1) (fun _=>rfl) ?start ?round
 case start =>
  intro a W rep
  exact⟨(0,W4),⟨Nat.zero_le _,Fresh.refl _⟩,rep.lq⟩
 case round =>
  rintro ⟨n,W5⟩ ⟨hn,hw5⟩ I again
  have hn:n≤5:=hn
  have hw5:Fresh W4 W5:=hw5
  have hX:=hX4.keep hw5
  have hY:=rY.keep hw5
  (refine Y_go 600 ?_; dsimp only[go_sem,Nat.reduceBEq,reduceAdd])
  refine⟨fun hlt=>?_,fun hge=>?_⟩
  rotate_left
  ·exact done W5 _ _ (Fresh.tr hw1 hw5) rfl
  have hlt:n < 5:=by have:=of_decide_eq_true hlt; omega
  refine⟨rfl,B,l.length,bc,hX.cell (j:=0) rfl,?_⟩
  have hm:=passL_len n l
  refine zj1i (vs:=[.int .i64 (n:Int),.slice B l.length bc]) rfl (R:=fun W v W'=>∃ (B:Option Addr) (d:Nat),v=.tuple #[.slice B (passL n l).length d,.int .i64 0]∧RowAt W' B (cellsI (passL n l))∧Fresh W W') (fun W hW=>(passAll hlt l (by omega) B bc W (hG4.keep (Fresh.tr hw5 hW.fresh')) (hB4.keep (Fresh.tr hw5 hW.fresh'))).mono fun v w' h=>by
   obtain⟨hk,s,hv,hs⟩:=h
   rw[zj2d (by omega)] at hv
   obtain⟨A,c,rfl⟩:=owns_slc hs
   exact⟨A,c,hv,.of_own hs rfl,hk⟩) (fun W v W' h=>by obtain⟨_,_,_,_,h⟩:=h; exact h) fun W v W6 hW ⟨B6,bc6,hv,hB6,hk6⟩ _=>?_
  subst hv
  have hw6:Fresh W4 W6:=Fresh.tr hw5 (Fresh.tr hW.fresh' hk6)
  clear hW hk6
  refine⟨.tup [.val (.slice B6 (passL n l).length bc6),.val (.int .i64 0)],by simp[Is,IsL],?_⟩
  rw[show fps ([]:List SO)=[] from rfl]
  have hbn:=hbet n hlt
  clear hbet
  generalize passL n l=m at *
  have hX6:=hX4.keep hw6
  (refine Y_go 600 ?_; dsimp only[go_sem,Nat.reduceBEq,reduceAdd])
  refine⟨rfl,_,hX6.cell (j:=1) rfl,_,hX6.cell (j:=2) rfl,_,hX6.cell (j:=3) rfl,_,hX6.cell (j:=4) rfl,_,hX6.cell (j:=5) rfl,_,hX6.cell (j:=6) rfl,_,hX6.cell (j:=7) rfl,_,hX6.cell (j:=8) rfl,rfl,_,_,_,hX6.cell (j:=10) rfl,rfl,_,hX6.cell (j:=11) rfl,?_⟩
  refine zj1i (vs:=[.slice B6 m.length bc6,.agg #[.int .u64 a0,.int .u64 a1,.int .u64 a2,.int .u64 a3,.int .u64 a4,.int .u64 a5,.int .u64 a6,.int .u64 a7],.int .i64 0,.slice WA ws.length wc,.int .i64 steps]) rfl (R:=fun W v W'=>Fresh W W'∧_) (fun W hh=>run15 B6 WA bc6 wc m ws [a0,a1,a2,a3,a4,a5,a6,a7] steps W (hB6.keep hh.fresh') (hW4.keep (Fresh.tr hw6 hh.fresh')) (hG4.keep (Fresh.tr hw6 hh.fresh')) rfl (by omega) (by omega) hU hwU) (fun _ _ _ h=>h.1) fun W v W7 hW2 ⟨k7,_,hgood⟩ _=>?_
  rw[show fps ([]:List SO)=[] from rfl]
  have hw7:Fresh W4 W7:=Fresh.tr hw6 (Fresh.tr hW2.fresh' k7)
  obtain⟨A7,c7,p7,hv,hr7,hn7,hn8⟩:=hgood good
  clear hW2 k7 hgood
  subst hv
  generalize runM m steps.toNat (m0S ws [a0,a1,a2,a3,a4,a5,a6,a7])=res at *
  obtain⟨⟨wws,wrs,wbl,wer⟩,wk⟩:=res
  dsimp only at hr7 hn7 hn8 hbn
  obtain⟨hbe,hbk⟩:=hbn he
  injection hbe with b1 b2 b3 b4
  subst b1; subst b2; subst b3; subst b4
  refine⟨.tup [.agg [.val (.slice A7 ws.length c7),.val (.int .u64 o0),.val (.int .u64 o1),.val (.int .u64 o2),.val (.int .u64 o3),.val (.int .u64 o4),.val (.int .u64 o5),.val (.int .u64 o6),.val (.int .u64 o7),.val (.int .i64 p7),.val (.int .i64 (wk:Int)),.val (.int .i64 wbl),.val (.int .i64 (erC wer))],.val (.int .i64 0)],by simp[Is,IsL,uV],?_⟩
  have hY7:=rY.keep hw7
  (refine Y_go 600 ?_; dsimp only[go_sem,Nat.reduceBEq,reduceAdd])
  intro g9
  refine⟨fun h=>absurd h (by decide),fun _=>⟨fun h=>absurd h (by decide),fun _=>?_⟩⟩
  refine⟨_,_,_,hY7.cell (j:=0) rfl,_,hY7.cell (j:=1) rfl,_,hY7.cell (j:=2) rfl,_,hY7.cell (j:=3) rfl,_,hY7.cell (j:=4) rfl,_,hY7.cell (j:=5) rfl,_,hY7.cell (j:=6) rfl,_,hY7.cell (j:=7) rfl,_,hY7.cell (j:=8) rfl,_,hY7.cell (j:=9) rfl,_,hY7.cell (j:=10) rfl,_,hY7.cell (j:=11) rfl,_,hY7.cell (j:=12) rfl,?_⟩
  refine zj00 (vs:=[.agg #[.slice A1 ws.length c1,.int .u64 o0,.int .u64 o1,.int .u64 o2,.int .u64 o3,.int .u64 o4,.int .u64 o5,.int .u64 o6,.int .u64 o7,.int .i64 p1,.int .i64 (ok:Int),.int .i64 wbl,.int .i64 (erC wer)],.agg #[.slice A7 ws.length c7,.int .u64 o0,.int .u64 o1,.int .u64 o2,.int .u64 o3,.int .u64 o4,.int .u64 o5,.int .u64 o6,.int .u64 o7,.int .i64 p7,.int .i64 (wk:Int),.int .i64 wbl,.int .i64 (erC wer)]]) rfl (R:=fun v=>v=.bool true) (fun W hh=>?_) fun v hv=>⟨.bt,by rw[hv]; simp[Is],?_⟩
  ·have:=better17 A1 A7 c1 c7 wws o0 o1 o2 o3 o4 o5 o6 o7 p1 p7 (ok:Int) (wk:Int) wbl (erC wer) W (hr4.keep (Fresh.tr hw7 hh.fresh')) (hr7.keep hh.fresh') (by omega) (by omega)
   rw[hn7] at this
   exact this
  (refine Y_go 600 ?_; dsimp only[go_sem,Nat.reduceBEq])
  exact⟨((n+1:Nat):Int),ArOk.to (by omega) (by omega) (by omega),zj02 fun a W rep=>again (n+1,W7) ⟨by show n+1≤5; omega,hw7⟩ (by show 5 - (n+1) < 5 - n; omega) a W (rep.lq)⟩
end Go.Proofs.YtgghmmjoplddbaaGreatDoor
