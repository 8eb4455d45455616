/- What a pass makes of a program is the document's: the frame of four statements. -/
import Derived.Test.YtgghmmjoplddbaaGreatDoorZFdW1
set_option linter.unusedSimpArgs false
set_option linter.unusedVariables false
set_option linter.unnecessarySimpa false
namespace Go.Proofs.YtgghmmjoplddbaaGreatDoor
open Go Go.Sx Go.Isa
set_option maxRecDepth 100000
def errP (l:List In):Int:=if 1024 < l.length then 2 else 0
def ansP (F:List In→List In) (l:List In):List In:=if 1024 < l.length then [] else F l
def PassOk (f:Nat) (pre:List Value) (l m:List In):Prop:=∀ A c w,ShAt w→RowAt w A (cellsI l)→CallsV Tryz.prog f (pre++[.slice A l.length c]) w fun v w'=>Fresh w w'∧∃ s,v=.tuple #[s,.int .i64 (errP l)]∧World.ownsB w' w.heap.size 47 5 s m.length (cellsI m)
theorem zj4a {f:Nat} {pre:List Value} {C:Cx} (hC:C.P=Tryz.prog) {l m:List In} {A:Option Addr} {c:Nat} (hf:PassOk f pre l m)
  {E:Env} {s:SS} {args:List Operand} (hargs:denL s.H (evL s.F args)=some (pre++[.slice A l.length c])) (hG:∀ W,HeapOk E s.H W→ShAt W) (hA:∀ W,HeapOk E s.H W→RowAt W A (cellsI l)) {d:Option Nat} {ops:List XS} {k:List KI}
  (good:∀ B cc,G C E (.ops ops :: k) { F:=putF s.F d (.tup [.own s.H.length 0,.val (.int .i64 (errP l))]),H:=s.H++[.own 47 0 5 B m.length cc (cellsI m)] }) :
  G C E (.ops ({ dst:=d,guard:=none,i:=.call f args } :: ops) :: k) s:=by
 refine zj0b hargs (fun W hW=>by rw[hC]; exact hf A c W (hG W hW) (hA W hW)) fun W v W' hW hr=>?_
 obtain⟨hk,sv,rfl,hs⟩:=hr
 obtain⟨B,cc,rfl,hx,hh,hi⟩:=hW.gain hs hk
 exact⟨_,_,by simp only[Is,IsL]; exact⟨_,⟨_,_,by simpa only[Is] using hi,⟨_,_,rfl,rfl,rfl⟩,rfl⟩,rfl⟩,hx,hh,good B cc⟩
theorem zj4q {l:List In} (h:1024 < l.length):errP l=2:=by unfold errP; rw[if_pos h]
theorem zj2d {l:List In} (h:l.length≤1024):errP l=0:=by unfold errP; rw[if_neg (by omega)]
theorem zj6l {F:List In→List In} {l:List In} (h:1024 < l.length):ansP F l=[]:=by unfold ansP; rw[if_pos h]
theorem zj25 {F:List In→List In} {l:List In} (h:l.length≤1024):ansP F l=F l:=by unfold ansP; rw[if_neg (by omega)]
open Nat (reduceAdd reduceLT)
theorem over_less {E A:Env} {st:List Nat} (nt:Nat) (mk:List Nat) (h:Over E A) (hs:∀ j ∈ st,j ∈ A.stolen):Over E ⟨A.b,A.N,st,nt,mk⟩ :=
 ⟨h.keep,fun j hj=>⟨(h.sub j hj).1,fun hm=>(h.sub j hj).2 (hs j hm)⟩,h.floor⟩
theorem stOk0:stOk St0:=⟨rfl,fun o ho v hv=>by
 unfold St0 at ho
 rw[List.eq_of_mem_replicate ho] at hv; cases hv⟩
theorem zj7q {s:List (Option Int)} (h:stOk s) (i:Nat) {o:Option Int} (ho:∀ v,o=some v→isU v):stOk (s.set i o):=⟨by rw[List.length_set]; exact h.1,fun q hq v hv=>by
 rcases List.mem_or_eq_of_mem_set hq with e | e
 ·exact h.2 q e v hv
 ·subst e; exact ho v hv⟩
theorem foldI_ok {x:In} {s:List (Option Int)} {p:Nat} (h:stOk s):stOk (foldI x s p).2:=by
 have hn:∀ v,(none:Option Int)=some v→isU v:=fun v h=>by cases h
 unfold foldI
 split
 ·exact h
 ·split
  ·split <;> exact h
  ·split
   ·exact zj7q h _ hn
   ·split
    ·exact h
    ·rename_i hop
     split
     ·exact zj7q h _ fun v hv=>by injection hv with hv; subst hv; exact do_isU (rgO_U h) (by omega)
     ·exact zj7q h _ hn
theorem cellsI_put {l:List In} {i:Nat} {x:In} (h:i < l.length):splice (cellsI l) (i*5) x.cells=cellsI (l.set i x):=by
 apply List.ext_getElem?
 intro j
 have hc:x.cells.length=5:=rfl
 rw[zj0m _ _ _ (by rw[zj0o,hc]; omega),hc]
 rcases Nat.lt_or_ge j (l.length*5) with hj | hj
 ·obtain⟨q,r,hr,rfl⟩:∃ q r,r < 5∧j=q*5+r:=⟨j / 5,j % 5,Nat.mod_lt _ (by omega),by omega⟩
  have hq:q < l.length:=by omega
  have hq2:q < (l.set i x).length:=by rw[List.length_set]; exact hq
  rw[zj0y (l.set i x) hq2 hr]
  by_cases e:i=q
  ·subst e
   rw[if_pos ⟨by omega,by omega⟩,List.getElem_set_self]
   congr 1; omega
  ·rw[if_neg (by omega),zj0y l hq hr,List.getElem_set_ne e]
 ·rw[if_neg (by omega),List.getElem?_eq_none (by rw[zj0o]; exact hj),List.getElem?_eq_none (by rw[zj0o,List.length_set]; exact hj)]
def fdT (l:List In) (m:Nat):List In:=(foldL l).take m++l.drop m
theorem fdT_len (l:List In) (m:Nat):(fdT l m).length=l.length:=by unfold fdT; rw[List.length_append,List.length_take,List.length_drop,zj1j]; omega
theorem fdT_zero (l:List In):fdT l 0=l:=by simp[fdT]
theorem fdT_all (l:List In):fdT l l.length=foldL l:=by
 unfold fdT; rw[List.drop_length,List.append_nil,List.take_of_length_le (by rw[zj1j]; exact Nat.le_refl _)]
theorem fdT_step {l:List In} {i:Nat} {x:In} (hx:l[i]? = some x):(fdT l i).set i (foldA l i x)=fdT l (i+1):=by
 have hi:i < l.length:=(List.getElem?_eq_some_iff.1 hx).1
 have hf:=foldL_get hx
 apply List.ext_getElem?
 intro j
 unfold fdT
 rw[List.getElem?_set]
 have htl:((foldL l).take i).length=i:=by rw[List.length_take,zj1j]; omega
 have htl2:((foldL l).take (i+1)).length=i+1:=by rw[List.length_take,zj1j]; omega
 rcases Nat.lt_trichotomy j i with h | h | h
 ·rw[if_neg (by omega),List.getElem?_append_left (by omega),List.getElem?_append_left (by omega),List.getElem?_take,if_pos h,List.getElem?_take,if_pos (by omega)]
 ·subst h
  rw[if_pos rfl,if_pos (by rw[List.length_append,htl,List.length_drop]; omega),List.getElem?_append_left (by omega),List.getElem?_take,if_pos (by omega),hf]
 ·rw[if_neg (by omega),List.getElem?_append_right (by omega),List.getElem?_append_right (by omega),htl,htl2,List.getElem?_drop,List.getElem?_drop]
  congr 1; omega
theorem bgL_first (l:List In):((bgL l)[0]?).getD (l.length:Int)=((0:Nat):Int):=by
 by_cases h:l=[]
 ·subst h; simp[bgL_nil]
 ·rw[bgL_zero h]; rfl
theorem fold55 (l:List In) (hl:l.length≤2000):PassOk 35 [] l (ansP foldL l):=by
 intro B bc w hG hB
 refine zj03 (keep:=K35) (nt:=46) (svs:=[.val (.slice B l.length bc)]) Tryz.func35 x35 n35 (by simp) (by simp[IsL,Is]) fun R hR=>?_
 (refine Y_go 600 ?_; dsimp only[go_sem,reduceAdd,Nat.reduceBEq])
 by_cases hbig:1024 < l.length
 ·refine zj00 (vs:=[.slice B l.length bc]) rfl (fun W hW=>parts17_big l.length B bc W hbig) fun v hv=>⟨.tup [.val (.slice none 0 0),.val (.int .i64 2)],by rw[hv]; simp[Is,IsL],?_⟩
  (refine Y_go 600 ?_; dsimp only[go_sem,Nat.reduceBEq])
  exact⟨fun _=>zj01 (vs:=[_,_]) r35 rfl rfl fun W hW=>hR _ _ ⟨hW.fresh',_,by rw[zj4q hbig]; rfl,by rw[zj6l hbig]; exact zj1b _ _ _ _⟩,fun h=>absurd h (by decide)⟩
 have hle:l.length≤1024:=by omega
 refine zj1i (vs:=[.slice B l.length bc]) rfl (R:=fun W v W'=>∃ u,v=.tuple #[u,.int .i64 0]∧PartsR l W u W') (fun W hW=>parts17 l B bc W hle (hB.keep hW.fresh') (hG.keep hW.fresh')) (fun _ _ _ h=>by obtain⟨_,_,_,_,_,_,_,_,_,_,h⟩:=h; exact h) fun W2 v W3 hW2 ⟨u,hv,pA,pc,ps,hu,k1,k2,k3,_,k4⟩ _=>?_
 subst hv; subst hu
 have hw3:Fresh w W3:=Fresh.tr hW2.fresh' k4
 have kp:RowAt W3 pA (cellsR ps):=.of_own k2 rfl
 have kB:RowAt W3 B (cellsI l):=hB.keep hw3
 have kG:ShAt W3:=hG.keep hw3
 refine⟨.tup [.val (.slice pA ps.length pc),.val (.int .i64 0)],by simp[Is,IsL],?_⟩
 rw[show fps ([]:List SO)=[] from rfl]
 (refine Y_go 600 ?_; dsimp only[go_sem,Nat.reduceBEq])
 refine⟨fun h=>absurd h (by decide),fun _=>?_⟩
 refine zj1d (vs:=[.slice B l.length bc]) rfl (fun W hW=>clone82 B bc l W (kB.keep hW.fresh') (by omega)) fun oA oC=>?_
 simp only[putF,List.nil_append,List.length_nil]
 (refine Y_go 600 ?_; dsimp only[go_sem,Nat.reduceBEq])
 refine zj08 (α:=Nat × Nat) (fun q=>q.1≤ps.length∧((bgL l)[q.1]?).getD (l.length:Int)=(q.2:Int)∧q.2≤l.length) (fun _=>⟨W3,W3.heap.size,[],46,[]⟩) (fun q=>{ F:=[(0,.val (.slice B l.length bc)),(6,.own 0 0),(21,.val (.slice pA ps.length pc)),(22,.val (.int .i64 ps.length)),(23,.val (.int .i64 (q.1:Int)))],H:=[.own 47 0 5 oA l.length oC (cellsI (fdT l q.2))] }) (fun q=>ps.length - q.1) (fun _=>rfl) ?start ?round
 case start =>
  intro a W rep
  exact⟨(0,0),⟨Nat.zero_le _,bgL_first l,Nat.zero_le _⟩,rep.le (by (simp only[go_sem,renF,renV,renVL,renO,pickH,pickE,posOf,lk,Nat.reduceBEq,reduceLT,reduceAdd] <;> try simp)) (by rw[fdT_zero]; (simp only[go_sem,renF,renV,renVL,renO,pickH,pickE,posOf,lk,Nat.reduceBEq,reduceLT,reduceAdd] <;> try simp))⟩
 case round =>
  rintro ⟨k,m⟩ ⟨hk,hm,hml⟩ I again
  have hk:k≤ps.length:=hk
  have hm:((bgL l)[k]?).getD (l.length:Int)=(m:Int):=hm
  have hml:m≤l.length:=hml
  (refine Y_go 600 ?_; dsimp only[go_sem,Nat.reduceBEq,reduceAdd])
  refine⟨fun hlt=>?_,fun hge=>?_⟩
  ·have hlt:k < ps.length:=by have:=of_decide_eq_true hlt; omega
   have hpl:=zj6i k1
   have hpr:ps[k]? = some ps[k]:=List.getElem?_eq_getElem hlt
   have hpa:(ps[k]).pa=partL l (bgL l) k:=by
    have h:=congrArg (fun z=>z[k]?) k1
    simp only[List.getElem?_map,hpr,Option.map_some] at h
    rw[zj6b (by omega)] at h
    injection h
   generalize hpe:ps[k]=pr at hpr hpa
   have hx:(bgL l)[k]? = some (m:Int):=by
    have h:=List.getElem?_eq_getElem (l:=bgL l) (i:=k) (by omega)
    rw[h,Option.getD_some] at hm; rw[h,hm]
   have efr:pr.pa.fr=m:=by rw[hpa]; show (bgL l).getD _ 0=_; rw[List.getD_eq_getElem?_getD,hx]; rfl
   obtain⟨hto1,hto2⟩:=toL_range hx
   obtain⟨to,hto⟩:∃ to:Nat,toL l.length (bgL l) k=(to:Int):=⟨(toL l.length (bgL l) k).toNat,by omega⟩
   have eto:pr.pa.to=to:=by rw[hpa]; exact hto
   rw[hto] at hto1 hto2
   have hk1:((k:Nat):Int).toNat=k:=by omega
   have q0:CellAt ⟨W3,W3.heap.size,[],46,[]⟩ pA (k*3) (.int .i64 (m:Int)):=by rw[← efr]; exact kp.cell (by have:=zj49 (k:=0) hpr (by omega); rw[Nat.add_zero] at this; rw[this]; rfl)
   have q1:CellAt ⟨W3,W3.heap.size,[],46,[]⟩ pA (k*3+1) (.int .i64 (to:Int)):=by rw[← eto]; exact kp.cell (by rw[zj49 hpr (by omega)]; rfl)
   have q2:CellAt ⟨W3,W3.heap.size,[],46,[]⟩ pA (k*3+2) (.slice pr.A pr.pa.nx.length pr.c):=kp.cell (by rw[zj49 hpr (by omega)]; rfl)
   have sA:pA.isSome=true:=by obtain⟨a,rfl,_⟩:=q0; rfl
   rw[hk1]
   refine⟨⟨by omega,by omega,sA⟩,_,q0,_,q1,_,_,_,q2,fun g g1=>?_⟩
   refine zj08 (α:=Nat × List (Option Int)) (fun q=>m≤q.1∧q.1≤to∧stOk q.2∧(q.1 < to→q.2=stA l (bgL l) q.1)) (fun _=>⟨W3,W3.heap.size,[],46,[]⟩) (fun q=>{ F:=[(0,.val (.slice B l.length bc)),(6,.own 1 0),(8,.ptr 2 0),(9,.ptr 0 0),(10,.val (.int .i64 (q.1:Int))),(21,.val (.slice pA ps.length pc)),(22,.val (.int .i64 ps.length)),(23,.val (.int .i64 (k:Int)))],H:=[.row g1 127 (knV q.2),.own 47 0 5 oA l.length oC (cellsI (fdT l q.1)),.cells g 123 [.val (.int .i64 (m:Int)),.val (.int .i64 (to:Int)),.val (.slice pr.A pr.pa.nx.length pr.c)]] }) (fun q=>to - q.1) (fun _=>rfl) ?start2 ?round2
   case start2 =>
    intro a W rep
    have rep1:=(rep.torow 2 rfl rfl).pick [2,0,1] (by decide)
    refine⟨(m,St0),⟨Nat.le_refl _,by show m≤to; omega,stOk0,fun _=>(stA_beg (List.mem_of_getElem? hx)).symm⟩,?_⟩
    exact rep1.le (by (simp only[go_sem,renF,renV,renVL,renO,pickH,pickE,posOf,lk,Nat.reduceBEq,reduceLT,reduceAdd] <;> try simp)) (by (simp only[go_sem,renF,renV,renVL,renO,pickH,pickE,posOf,lk,Nat.reduceBEq,reduceLT,reduceAdd] <;> try simp); rfl)
   case round2 =>
    rintro ⟨i,s⟩ ⟨hi1,hi2,hs,hs2⟩ I2 again2
    have hi1:m≤i:=hi1
    have hi2:i≤to:=hi2
    have hs2:i < to→s=stA l (bgL l) i:=hs2
    (refine Y_go 600 ?_; dsimp only[go_sem,Nat.reduceBEq,reduceAdd])
    refine⟨fun hlt2=>?_,fun hge2=>?_⟩
    ·have hlt2:i < to:=by have:=of_decide_eq_true hlt2; omega
     have hil:i < l.length:=by omega
     have hx':l[i]? = some l[i]:=List.getElem?_eq_getElem hil
     have hi1':((i:Nat):Int).toNat=i:=by omega
     have cl:∀ k v,k < 5→(l[i]).cells[k]? = some v→CellAt ⟨W3,W3.heap.size,[],46,[]⟩ B (i*5+k) v:=fun k v hk hv=>(kB.toE (by simp) 46 []).cell (by rw[zj0y l hil hk]; exact hv)
     have sB:=someI kB hil
     generalize l[i]=x at cl hx'
     rw[hi1']
     refine⟨⟨by omega,by omega,sB⟩,_,cl 0 _ (by omega) rfl,_,cl 1 _ (by omega) rfl,_,cl 2 _ (by omega) rfl,_,cl 3 _ (by omega) rfl,_,cl 4 _ (by omega) rfl,?_⟩
     have hG0:RowE ⟨W3,W3.heap.size,[],46,[]⟩ (some ⟨0,0,none⟩) shL:=RowAt.toE kG (by simp) 46 []
     refine zj2s [.row g1 127 (knV s)] [.own 47 0 5 oA l.length oC (cellsI (fdT l i)),.cells g 123 [.val (.int .i64 (m:Int)),.val (.int .i64 (to:Int)),.val (.slice pr.A pr.pa.nx.length pr.c)]] (vs:=[.pointer (some ⟨g1,0,none⟩),In.val x,.int .i64 (i:Int)]) (fun v H1'=>v=In.val (foldI x s i).1∧H1'=[.row g1 127 (knV (foldI x s i).2)]) rfl rfl (fun W hW hW1=>?_) ?_
     ·obtain⟨_,ov⟩:=hW.rebase 46 []
      refine (fold83 (E0:=⟨W,W.heap.size,_,0,[]⟩) x s i g1 (by omega) hs (hG0.over (over_less 0 [] ov (by intro j hj; show _ ∈ fps _; simp only[fps,List.flatMap_append]; exact List.mem_append_left _ hj))) hW1).mono fun v W' ⟨h1,h2⟩=>⟨_,⟨h1,rfl⟩,?_,rfl,h2⟩
      exact HExt.setBlk (H:=[.row g1 127 (knV s)]) (i:=0) rfl rfl rfl
     ·rintro v H1' ⟨rfl,rfl⟩
      obtain⟨y,hy⟩:∃ y,(foldI x s i).1=y:=⟨_,rfl⟩
      have hfa:i < to→foldA l i x=y:=fun h=>by unfold foldA; rw[← hs2 h,hy]
      rw[hy]
      refine⟨.agg [.val (.int .i64 y.op),.val (.int .i64 y.a),.val (.int .i64 y.b),.val (.int .i64 y.c),.val (.int .i64 y.imm)],In.is _ y,?_⟩
      simp only[putF,List.singleton_append]
      (refine Y_go 600 ?_; dsimp only[go_sem,Nat.reduceBEq,reduceAdd])
      rw[hi1']
      have hsp:setn (setn (setn (setn (setn (cellsI (fdT l i)) (i*5) (Value.int IntKind.i64 y.op)) (i*5+1) (Value.int IntKind.i64 y.a)) (i*5+1+1) (Value.int IntKind.i64 y.b)) (i*5+1+1+1) (Value.int IntKind.i64 y.c)) (i*5+1+1+1+1) (Value.int IntKind.i64 y.imm)=cellsI (fdT l (i+1)):=by
       have h:=cellsI_put (l:=fdT l i) (i:=i) (x:=y) (by rw[fdT_len]; exact hil)
       rw[← fdT_step hx',hfa hlt2,← h]; rfl
      rw[hsp]
      refine⟨⟨by omega,by omega⟩,by rw[zj0o,fdT_len]; omega,((i+1:Nat):Int),ArOk.to (by omega) (by omega) (by omega),zj02 fun a W rep=>again2 (i+1,(foldI x s i).2) ⟨by show m≤i+1; omega,by show i+1≤to; omega,foldI_ok hs,fun h=>?_⟩ (by show to - (i+1) < to - i; omega) a W (rep.lq)⟩
      have h:i+1 < to:=h
      show (foldI x s i).2=stA l (bgL l) (i+1)
      rw[stA_mid hx' (part_mid hx (by omega) (by rw[hto]; omega)),← hs2 hlt2]
    ·have hge2:i=to:=by have:=of_decide_eq_false hge2; omega
     subst hge2
     have hbn:=bgL_len l
     refine⟨((k+1:Nat):Int),ArOk.to (by omega) (by omega) (by omega),zj02 fun a W rep=>again (k+1,i) ⟨by show k+1≤_; omega,?_,by show i≤_; omega⟩ (by show ps.length - (k+1) < ps.length - k; omega) a W (((rep.pick [1] (by decide))).lp)⟩
     show ((bgL l)[k+1]?).getD (l.length:Int)=(i:Int)
     rw[← hto]; rfl
  ·have hk2:k=ps.length:=by have:=of_decide_eq_false hge; omega
   have hml:m=l.length:=by
    subst hk2
    rw[zj6i k1,List.getElem?_eq_none (by omega),Option.getD_none] at hm
    omega
   subst hml
   rw[fdT_all]
   refine zj01 (vs:=[.slice oA l.length oC,.int .i64 0]) r35 rfl rfl fun W hW=>hR _ _ ⟨Fresh.tr hw3 hW.fresh',_,by rw[zj2d hle]; rfl,?_⟩
   have h:=hW.owns (i:=0) rfl
   rw[zj25 hle,zj1j]
   exact zj3k h hw3.size
end Go.Proofs.YtgghmmjoplddbaaGreatDoor
