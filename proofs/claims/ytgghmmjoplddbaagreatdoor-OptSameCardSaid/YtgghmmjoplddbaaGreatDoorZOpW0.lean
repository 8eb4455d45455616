/- opt.same. -/
import Derived.Test.YtgghmmjoplddbaaGreatDoorZOpCode
import Derived.Test.YtgghmmjoplddbaaGreatDoorZDpW1
import Derived.Test.YtgghmmjoplddbaaGreatDoorZBgThr2
set_option linter.unusedSimpArgs false
set_option linter.unusedVariables false
set_option linter.unnecessarySimpa false
namespace Go.Proofs.YtgghmmjoplddbaaGreatDoor
open Go Go.Sx Go.Isa
set_option maxRecDepth 100000
theorem same81 (A B : Option Addr) (c d : Nat) (l m : List In) (w : World) (hA : RowAt w A (cellsI l)) (hB : RowAt w B (cellsI m)) (hl : l.length ≤ 2000000)
   : CallsV Tryz.prog 91 [.slice A l.length c,.slice B m.length d] w fun v w'=>Fresh w w'∧v=.bool (decide (l=m)):=by
 refine zj03 (keep:=K91) (nt:=26) (svs:=[.val (.slice A l.length c),.val (.slice B m.length d)]) Tryz.func91 x91 n91 (by simp) (by simp[IsL,Is]) fun R hR=>?_
 have no:l ≠ m→∀ s,denAll s.H s.F [4]=some [.bool false]→RetG (cxOf Tryz.prog Tryz.f91 K91 T91 R) ⟨w,w.heap.size,[],26,[]⟩ s:=fun hk s hs =>
  zj01 r91 rfl hs fun W hW=>hR _ _ ⟨hW.fresh',by simp[hk,tupOf]⟩
 (refine Y_go 600 ?_; dsimp only[go_sem,Nat.reduceAdd,Nat.reduceBEq])
 refine⟨fun h=>no (fun e=>by simp[e] at h) _ rfl,fun h=>?_⟩
 have hlm : l.length = m.length := by have : (l.length : Int) = m.length := by simpa using h
                                      omega
 refine zj08 (α:=Nat) (fun i=>i≤l.length∧l.take i=m.take i) (fun _=>⟨w,w.heap.size,[],26,[]⟩)
   (fun i=>{ F:=[(0,.val (.slice A l.length c)),(1,.val (.slice B m.length d)),(12,.val (.int .i64 l.length)),(13,.val (.int .i64 i))],H:=[] }) (fun i=>l.length - i) (fun _=>rfl) ?start ?round
 case start =>
  intro a W rep
  refine⟨0,⟨Nat.zero_le _,by simp⟩,rep.le ?_ ?_⟩ <;> (simp only[go_sem,lk,Nat.reduceBEq,Nat.reduceLT,Nat.reduceAdd] <;> try simp)
 case round =>
  rintro i ⟨hi,ht⟩ I hI
  (refine Y_go 600 ?_; dsimp only[go_sem,Nat.reduceBEq])
  refine⟨fun hlt=>?_,fun hge=>?_⟩
  ·have hlt:i < l.length:=by have:=of_decide_eq_true hlt; omega
   have hlt':i < m.length:=by omega
   refine⟨⟨by omega,by omega,someI hA hlt⟩,_,cellI hA hlt (k:=0) rfl,_,cellI hA hlt (k:=1) rfl,_,cellI hA hlt (k:=2) rfl,_,cellI hA hlt (k:=3) rfl,_,cellI hA hlt (k:=4) rfl,
    ⟨by omega,by omega,someI hB hlt'⟩,_,cellI hB hlt' (k:=0) rfl,_,cellI hB hlt' (k:=1) rfl,_,cellI hB hlt' (k:=2) rfl,_,cellI hB hlt' (k:=3) rfl,_,cellI hB hlt' (k:=4) rfl,?_⟩
   have hel:(l[i].op=m[i].op∧l[i].a=m[i].a∧l[i].b=m[i].b∧l[i].c=m[i].c∧l[i].imm=m[i].imm) ↔ l[i]=m[i]:=by
    constructor
    ·rintro ⟨h1,h2,h3,h4,h5⟩
     have:∀ x y:In,x.op=y.op→x.a=y.a→x.b=y.b→x.c=y.c→x.imm=y.imm→x=y:=by
      rintro ⟨⟩ ⟨⟩ h1 h2 h3 h4 h5; simp at h1 h2 h3 h4 h5; simp[h1,h2,h3,h4,h5]
     exact this _ _ h1 h2 h3 h4 h5
    ·intro h; rw[h]; simp
   refine⟨fun h=>no (fun e=>?_) _ rfl,fun h=>⟨_,.add64 (by omega) (by omega),zj02 fun a W rep=>hI (i+1) ⟨by omega,?_⟩ (by omega) a W (rep.le ?_ ?_)⟩⟩
   ·subst e; simp at h
   ·rw[take_succ l hlt,take_succ m hlt',ht,hel.1 (by simpa using h)]
   ·(simp only[go_sem,lk,Nat.reduceBEq,Nat.reduceLT,Nat.reduceAdd] <;> try simp)
   ·(simp only[go_sem,lk,Nat.reduceBEq,Nat.reduceLT,Nat.reduceAdd] <;> try simp)
  ·have hil:i=l.length:=by have:=of_decide_eq_false hge; omega
   subst hil
   have:l=m:=by rw[List.take_length,hlm,List.take_length] at ht; exact ht
   exact zj01 (vs:=[.bool true]) r91 rfl rfl fun W hW=>hR _ _ ⟨hW.fresh',by simp[this,tupOf]⟩
open Nat (reduceAdd reduceLT)
theorem callv_base {C:Cx} {E:Env} {d:Option Nat} {x:Operand} {f:FuncId} {fst caps:List Value} {args:List Operand} {l:List XS} {k:List KI} {s:SS} {vs:List Value} (hx:den s.H (ev s.F x)=some (.func (.func f) fst.toArray caps.toArray)) (hok:fnOk C.P f=true)
  (hargs:denL s.H (evL s.F args)=some vs) {R:World→Value→World→Prop} (hc:∀ W,HeapOk E s.H W→CallsV C.P f (fst++vs++caps) W (R W)) (hk:∀ W v W',R W v W'→Fresh W W')
  (next:∀ W v W',HeapOk E s.H W→R W v W'→Over E ⟨W',W'.heap.size,fps s.H,E.nt,E.marks⟩→∃ sv,Is s.H sv v∧G C ⟨W',W'.heap.size,fps s.H,E.nt,E.marks⟩ (.ops l :: k) { F:=putF s.F d sv,H:=s.H }) :
  G C E (.ops ({ dst:=d,guard:=none,i:=.callv x args } :: l) :: k) s:=by
 intro a W rep ops ol hol
 obtain⟨q,rest,rfl,ho,hl⟩:=zj11 hol
 obtain⟨op,rfl,hd,hdst,hg,hi⟩:=zj10 ho rfl
 obtain⟨c,hop,hcal,hargs'⟩:=zj3v hi
 have hn:=zj28 hi (by simp)
 have hw:=zj0r hg a
 show stepS C.r C.P ops _ op _ a W
 unfold stepS
 rw[if_pos hw,zj32 hop hn]
 refine⟨fun _ _=>trivial,?_⟩
 have hnd:∀ c',op.op ≠ .defer c':=by intro c' e; rw[hop] at e; cases e
 have hvs:(c.args.map a.eval)=vs.toArray:=by
  have:=zj0t _ hargs (rep.evL args)
  rw[← hargs'] at this
  rw[← this,← Array.toList_map,Array.toArray_toList]
 have hfv:a.eval x=.func (.func f) fst.toArray caps.toArray:=den_is _ hx (rep.ev x)
 have hrun:(execOp a.eval op).run C.P W=.ok (.enter f (fst++vs++caps).toArray) W:=by
  simp only[execOp,hop,resolve,hcal,hfv,hvs,Deferred.ofValue,Sem.run_bind,Sem.run_pure,Result.andThen_ok,invoke]
  have e:fst.toArray++vs.toArray++caps.toArray=(fst++vs++caps).toArray:=by simp
  first | (rw[e]; exact zj0q hok _ W) | (simp only[List.append_toArray]; exact zj0q hok _ W)
 rw[Oper.semAt_eq _ _ _ hnd,hrun]
 refine⟨fun h=>by simp[WF,Fence.wide] at h,?_⟩
 refine zj15.2 ?_
 refine Calls.mono (hc W rep.heap) fun e W' he=>?_
 cases e with
 | returned v =>
  have hh:HeapOk E s.H W':=rep.heap.freshK (hk W v W' he)
  obtain⟨sv,h1,h4⟩:=next W v W' rep.heap he (hh.rebase E.nt E.marks).2
  have hdst':d=op.dst:=hdst
  have hr:Rep E { F:=putF s.F d sv,H:=s.H } (a.put op.dst v) W':=by
   rw[← hdst']; exact (rep.ext (HExt.refl _) hh).put (fun m hm=>hd m (by rw[← hdst']; exact hm)) h1
  exact h4 (a.put op.dst v) W' hr.rebase ops rest hl
 | panicked ch=>exact he.elim
 | outgrown=>exact he.elim
noncomputable def passF:Nat→List In→List In
 | 0=>foldL
 | 1=>zj0a
 | 2=>skipL
 | _=>trimL
noncomputable def stageL (l:List In):Nat→List In
 | 0=>l
 | j+1=>passF j (stageL l j)
theorem stage4 (l:List In):stageL l 4=optR l:=rfl
theorem zj2z (j:Nat) (l:List In):(passF j l).length≤l.length:=by
 match j with
 | 0=>show (foldL l).length≤_; rw[zj1j]; exact Nat.le_refl _
 | 1=>show (zj0a l).length≤_; rw[zj1m]; exact Nat.le_refl _
 | 2=>exact zj3n l
 | _+3=>exact zj5j l
theorem zj6p (l:List In):∀ j,(stageL l j).length≤l.length
 | 0=>Nat.le_refl _
 | j+1=>Nat.le_trans (zj2z j _) (zj6p l j)
theorem pass56 (l:List In) (hl:l.length≤2000):PassOk 36 [] l (ansP zj0a l):=fun A c w hG hA =>
 (thread56 A c l w hG hA hl).mono fun v w' ⟨hk,h⟩=>⟨hk,by
  rcases h with⟨h1,s,rfl,hs⟩ | ⟨h1,rfl⟩
  ·exact⟨s,by rw[zj2d h1],by rw[zj25 h1,zj1m]; exact hs⟩
  ·exact⟨_,by rw[zj4q h1],by rw[zj6l h1]; exact zj1b _ _ _ _⟩⟩
def fnV (j:Nat):Value:=.func (.func (35+j)) #[] #[]
theorem passOk {j:Nat} (hj:j < 4) (l:List In) (hl:l.length≤2000):PassOk (35+j) [] l (ansP (passF j) l):=by
 match j,hj with
 | 0,_=>exact fold55 l hl
 | 1,_=>exact pass56 l hl
 | 2,_=>exact skip57 l hl
 | 3,_=>exact trim58 l hl
theorem ok55:fnOk Tryz.prog 35=true:=by kernel_rfl
theorem ok56:fnOk Tryz.prog 36=true:=by kernel_rfl
theorem ok57:fnOk Tryz.prog 37=true:=by kernel_rfl
theorem ok58:fnOk Tryz.prog 38=true:=by kernel_rfl
theorem okFn {j:Nat} (hj:j < 4):fnOk Tryz.prog (35+j)=true:=by
 match j,hj with
 | 0,_=>exact ok55
 | 1,_=>exact ok56
 | 2,_=>exact ok57
 | 3,_=>exact ok58
def fnVs:List Value:=[fnV 0,fnV 1,fnV 2,fnV 3]
theorem until54 (l:List In) (B:Option Addr) (bc:Nat) (fA:Option Addr) (fc:Nat) (w:World) (hl:l.length≤2000) (hG:ShAt w) (hB:RowAt w B (cellsI l)) (hF:RowAt w fA fnVs) :
  CallsV Tryz.prog 65 [.slice B l.length bc,.slice fA 4 fc] w fun v w'=>Fresh w w'∧∃ s,v=.tuple #[s,.int .i64 (errP l)]∧World.ownsB w' w.heap.size 47 5 s (ansP optL l).length (cellsI (ansP optL l)):=by
 refine zj03 (keep:=K65) (nt:=35) (svs:=[.val (.slice B l.length bc),.val (.slice fA 4 fc)]) Tryz.func65 x65 n65 (by simp) (by simp[IsL,Is]) fun R hR=>?_
 (refine Y_go 600 ?_; dsimp only[go_sem,reduceAdd,Nat.reduceBEq])
 refine zj36 (fun _ _ _ h=>h) ?_
 (refine Y_go 600 ?_; dsimp only[go_sem])
 refine zj08 (α:=List In × Option Addr × Nat × World) (fun q=>ansP optL q.1=ansP optL l∧errP q.1=errP l∧q.1.length≤2000∧Fresh w q.2.2.2∧RowAt q.2.2.2 q.2.1 (cellsI q.1)) (fun q=>⟨q.2.2.2,q.2.2.2.heap.size,[],35,[]⟩) (fun q=>{ F:=[(0,.val (.slice q.2.1 q.1.length q.2.2.1)),(1,.val (.slice fA 4 fc))],H:=[] }) (fun q=>phiL q.1) (fun _=>rfl) ?start ?round
 case start =>
  intro a W rep
  exact⟨(l,B,bc,w),⟨rfl,rfl,hl,Fresh.refl _,hB⟩,rep.lp⟩
 case round =>
  rintro ⟨l1,B1,bc1,w1⟩ ⟨ha,he,hl1,hw1,hB1⟩ I again
  have ha:ansP optL l1=ansP optL l:=ha
  have he:errP l1=errP l:=he
  have hl1:l1.length≤2000:=hl1
  have hw1:Fresh w w1:=hw1
  have hB1:RowAt w1 B1 (cellsI l1):=hB1
  (refine Y_go 600 ?_; dsimp only[go_sem,Nat.reduceBEq])
  refine zj08 (α:=Nat × Option Addr × Nat × World) (fun q=>q.1≤4∧Fresh w1 q.2.2.2∧RowAt q.2.2.2 q.2.1 (cellsI (stageL l1 q.1))∧(0 < q.1→l1.length≤1024)) (fun q=>⟨q.2.2.2,q.2.2.2.heap.size,[],35,[]⟩) (fun q=>{ F:=[(0,.val (.slice q.2.1 (stageL l1 q.1).length q.2.2.1)),(1,.val (.slice fA 4 fc)),(6,.val (.slice B1 l1.length bc1)),(12,.val (.slice fA 4 fc)),(13,.val (.int .i64 ((4:Nat):Int))),(14,.val (.int .i64 (q.1:Int)))],H:=[] }) (fun q=>4 - q.1) (fun _=>rfl) ?start2 ?round2
  case start2 =>
   intro a W rep
   exact⟨(0,B1,bc1,w1),⟨Nat.zero_le _,Fresh.refl _,hB1,fun h=>absurd h (Nat.lt_irrefl 0)⟩,rep.le (by show leF _ _ [(0,SV.val (.slice B1 l1.length bc1)),_,_,_,_,_]; (simp only[go_sem,renF,renV,renVL,renO,pickH,pickE,posOf,lk,Nat.reduceBEq,reduceLT,reduceAdd] <;> try simp)) (by (simp only[go_sem,renF,renV,renVL,renO,pickH,pickE,posOf,lk,Nat.reduceBEq,reduceLT,reduceAdd] <;> try simp))⟩
  case round2 =>
   rintro ⟨j,B2,bc2,w2⟩ ⟨hj,hw2,hB2,hl2⟩ I2 again2
   have hj:j≤4:=hj
   have hw2:Fresh w1 w2:=hw2
   have hB2:RowAt w2 B2 (cellsI (stageL l1 j)):=hB2
   have hl2:0 < j→l1.length≤1024:=hl2
   have hw02:Fresh w w2:=Fresh.tr hw1 hw2
   have hst:=zj6p l1 j
   (refine Y_go 600 ?_; dsimp only[go_sem,Nat.reduceBEq])
   refine⟨fun h4=>?_,fun h4=>?_⟩
   ·have h4:j < 4:=by have:=of_decide_eq_true h4; omega
    have hj1:((j:Nat):Int).toNat=j:=by omega
    have hfn:fnVs[j*1]? = some (fnV j):=by
     rw[Nat.mul_one]
     match j,h4 with
     | 0,_=>rfl
     | 1,_=>rfl
     | 2,_=>rfl
     | 3,_=>rfl
    have hcF:CellAt ⟨w2,w2.heap.size,[],35,[]⟩ fA (j*1) (fnV j):=((hF.keep hw02).toE (by simp) 35 []).cell hfn
    have sF:fA.isSome=true:=by obtain⟨a,rfl,_⟩:=hcF; rfl
    rw[hj1]
    refine⟨⟨by omega,by omega,sF⟩,_,hcF,rfl,?_⟩
    refine callv_base (f:=35+j) (fst:=[]) (caps:=[]) (vs:=[.slice B2 (stageL l1 j).length bc2]) rfl (okFn h4) rfl (R:=fun W v W'=>Fresh W W'∧∃ s,v=.tuple #[s,.int .i64 (errP (stageL l1 j))]∧World.ownsB W' W.heap.size 47 5 s (ansP (passF j) (stageL l1 j)).length (cellsI (ansP (passF j) (stageL l1 j))))
     (fun W hW=>passOk h4 (stageL l1 j) (by omega) B2 bc2 W (hG.keep (Fresh.tr hw02 hW.fresh')) (hB2.keep hW.fresh')) (fun W v W' h=>h.1) fun W v W' hW ⟨hk,s,hv,hs⟩ _=>?_
    obtain⟨A,c,rfl,_⟩:=hW.gain hs hk
    have kA:RowAt W' A (cellsI (ansP (passF j) (stageL l1 j))):=.of_own hs rfl
    have hw2':Fresh w2 W':=Fresh.tr hW.fresh' hk
    subst hv
    refine⟨.tup [.val (.slice A (ansP (passF j) (stageL l1 j)).length c),.val (.int .i64 (errP (stageL l1 j)))],by simp[Is,IsL],?_⟩
    refine G.le (E':=⟨W',W'.heap.size,[],35,[]⟩) rfl (s':={ F:=[(21,.tup [.val (.slice A (ansP (passF j) (stageL l1 j)).length c),.val (.int .i64 (errP (stageL l1 j)))]),(0,.val (.slice B2 (stageL l1 j).length bc2)),(1,.val (.slice fA 4 fc)),(6,.val (.slice B1 l1.length bc1)),(12,.val (.slice fA 4 fc)),(13,.val (.int .i64 ((4:Nat):Int))),(14,.val (.int .i64 (j:Int))),(15,.bt)],H:=[] }) (fun a W rep=>rep.le (by simp only[putF]; (simp only[go_sem,renF,renV,renVL,renO,pickH,pickE,posOf,lk,Nat.reduceBEq,reduceLT,reduceAdd] <;> try simp)) (by (simp only[go_sem,renF,renV,renVL,renO,pickH,pickE,posOf,lk,Nat.reduceBEq,reduceLT,reduceAdd] <;> try simp))) ?_
    (refine Y_go 600 ?_; dsimp only[go_sem,Nat.reduceBEq])
    by_cases hbig:1024 < (stageL l1 j).length
    ·have hj0:j=0:=by
      rcases Nat.eq_zero_or_pos j with h | h
      ·exact h
      ·have:=hl2 h; omega
     subst hj0
     have hbig:1024 < l1.length:=hbig
     rw[show stageL l1 0=l1 from rfl,zj4q hbig]
     refine⟨fun _=>?_,fun h=>absurd h (by decide)⟩
     exact zj01 (vs:=[_,_]) r65 rfl rfl fun W hW=>hR _ _ ⟨Fresh.tr hw02 (Fresh.tr hw2' hW.fresh'),_,by rw[← he,zj4q hbig]; rfl,by rw[← ha,zj6l hbig]; exact zj1b _ _ _ _⟩
    ·have hle:(stageL l1 j).length≤1024:=by omega
     rw[zj2d hle]
     have hl1':l1.length≤1024:=by
      rcases Nat.eq_zero_or_pos j with h | h
      ·subst h; exact hle
      ·exact hl2 h
     refine⟨fun h=>absurd h (by decide),fun _=>⟨((j+1:Nat):Int),ArOk.to (by omega) (by omega) (by omega),zj02 fun a W rep=>again2 (j+1,A,c,W') ⟨by show j+1≤4; omega,Fresh.tr hw2 hw2',?_,fun _=>hl1'⟩ (by show 4 - (j+1) < 4 - j; omega) a W (rep.le ?_ ?_)⟩⟩
     ·rw[zj25 hle] at kA; exact kA
     ·rw[zj25 hle]
      show leF _ _ [(0,SV.val (.slice A (passF j (stageL l1 j)).length c)),_,_,_,_,_]
      (simp only[go_sem,renF,renV,renVL,renO,pickH,pickE,posOf,lk,Nat.reduceBEq,reduceLT,reduceAdd] <;> try simp)
     ·(simp only[go_sem,renF,renV,renVL,renO,pickH,pickE,posOf,lk,Nat.reduceBEq,reduceLT,reduceAdd] <;> try simp)
   ·have hj4:j=4:=by have:=of_decide_eq_false h4; omega
    subst hj4
    have hl1':=hl2 (by omega)
    rw[stage4] at hB2 hst ⊢
    refine zj00 (vs:=[.slice B1 l1.length bc1,.slice B2 (optR l1).length bc2]) (R:=fun v=>v=.bool (decide (l1=optR l1))) rfl (fun W hW=>(same81 B1 B2 bc1 bc2 l1 (optR l1) W (hB1.keep (Fresh.tr hw2 hW.fresh')) (hB2.keep hW.fresh') (by omega)).mono fun v w' h=>⟨h.2,h.1⟩) fun v hv=>⟨bsv (decide (l1=optR l1)),by rw[hv]; cases decide (l1=optR l1) <;> simp[bsv,Is],?_⟩
    by_cases hs:l1=optR l1
    ·rw[decide_eq_true hs]
     simp only[bsv]
     (refine Y_go 600 ?_; dsimp only[go_sem,Nat.reduceBEq])
     rw[← hs] at hB2 ⊢
     refine zj1d (vs:=[.slice B2 l1.length bc2]) rfl (fun W hW=>clone82 B2 bc2 l1 W (hB2.keep hW.fresh') (by omega)) fun oA oC=>?_
     (refine Y_go 600 ?_; dsimp only[go_sem,Nat.reduceBEq])
     refine zj01 (vs:=[_,_]) r65 rfl rfl fun W hW=>hR _ _ ⟨Fresh.tr hw02 hW.fresh',_,by rw[← he,zj2d hl1']; rfl,?_⟩
     have h:=hW.owns (i:=0) rfl
     rw[← ha,zj25 hl1',zj7n hs.symm]
     exact zj3k h hw02.size
    ·rw[decide_eq_false hs]
     simp only[bsv]
     (refine Y_go 600 ?_; dsimp only[go_sem,Nat.reduceBEq])
     have hs':optR l1 ≠ l1:=fun e=>hs e.symm
     have hr':(optR l1).length≤1024:=by omega
     refine zj02 fun a W rep=>again (optR l1,B2,bc2,w2) ⟨?_,?_,by show (optR l1).length≤2000; omega,hw02,hB2⟩ (zj46 hs') a W (rep.lp)
     ·show ansP optL (optR l1)=_
      rw[← ha,zj25 hl1',zj25 hr',zj3o hs']
     ·show errP (optR l1)=_
      rw[← he,zj2d hl1',zj2d hr']
theorem zj6q (l:List In) (hl:l.length≤2000):PassOk 39 [] l (ansP optL l):=by
 intro A c w hG hA
 refine zj03 (keep:=K39) (nt:=9) (svs:=[.val (.slice A l.length c)]) Tryz.func39 x39 n39 (by simp) (by simp[IsL,Is]) fun R hR=>?_
 (refine Y_go 600 ?_; dsimp only[go_sem,Nat.reduceAdd,Nat.reduceBEq,Nat.reduceMul])
 intro g
 refine zj0b (vs:=[.slice A l.length c,.slice (some ⟨g,0,none⟩) 4 4]) rfl (fun W hW=>until54 l A c (some ⟨g,0,none⟩) 4 W hl (hG.keep hW.fresh') (hA.keep hW.fresh') (hW.cellsAt (i:=0) rfl rfl)) fun W v W' hW hr=>?_
 obtain⟨hk,sv,rfl,hs⟩:=hr
 obtain⟨B,cc,rfl,hx,hh,hi⟩:=hW.gain hs hk
 have hi':Is _ (.own 1 0) _:=hi
 simp only[Is] at hi'
 refine⟨.tup [.own 1 0,.val (.int .i64 (errP l))],_,by simp only[Is,IsL]; exact⟨_,⟨_,_,hi',⟨_,_,rfl,rfl,rfl⟩,rfl⟩,rfl⟩,hx,hh,?_⟩
 clear hx hh hi hs hk hW
 (refine Y_go 600 ?_; dsimp only[go_sem,Nat.reduceBEq])
 exact zj01 (vs:=[_,_]) r39 rfl rfl fun W hW=>hR _ _ ⟨hW.fresh',_,rfl,hW.owns (i:=1) rfl⟩
end Go.Proofs.YtgghmmjoplddbaaGreatDoor
