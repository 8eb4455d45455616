/- slices.Compact at found. -/
import Derived.Test.YtgghmmjoplddbaaGreatDoorZLpW5
set_option linter.unusedSimpArgs false
set_option linter.unusedVariables false
set_option linter.unnecessarySimpa false
namespace Go.Proofs.YtgghmmjoplddbaaGreatDoor
open Go Go.Sx Go.Isa Go.Lint
set_option maxRecDepth 100000
def ddp:List (Int × Int)→List (Int × Int)
 | []=>[]
 | [x]=>[x]
 | x :: y :: r=>if x=y then ddp (y :: r) else x :: ddp (y :: r)
theorem zj5n (y:Int × Int):∀ (l:List (Int × Int)) (x:Int × Int),ddp (l++[x]++[y])=if x=y then ddp (l++[x]) else ddp (l++[x])++[y]
 | [],x=>by
  by_cases h:x=y
  ·subst h; simp[ddp]
  ·simp[ddp,h]
 | [a],x=>by
  have:=zj5n y [] x
  simp only[List.nil_append,List.cons_append] at *
  by_cases h:a=x
  ·simp only[ddp,h,if_true] at *
   split <;> simp_all
  ·simp only[ddp,h,if_false] at *
   split <;> simp_all
 | a :: c :: l,x=>by
  have:=zj5n y (c :: l) x
  simp only[List.cons_append] at *
  by_cases h:a=c
  ·simp only[ddp,h,if_true] at *
   exact this
  ·simp only[ddp,h,if_false] at *
   rw[this]
   split <;> simp
theorem zj4b {l:List (Int × Int)} {k:Nat} {x:Int × Int} (h:l[k]? = some x):l.take (k+1)=l.take k++[x]:=by
 rw[List.take_add_one,h]; rfl
theorem zj5o {l:List (Int × Int)} {k:Nat} {x y:Int × Int} (hx:l[k]? = some x) (hy:l[k+1]? = some y):ddp (l.take (k+2))=if x=y then ddp (l.take (k+1)) else ddp (l.take (k+1))++[y]:=by
 rw[zj4b hy,zj4b hx]
 exact zj5n y _ x
theorem ddp_len:∀ (l:List (Int × Int)),(ddp l).length≤l.length
 | []=>by simp[ddp]
 | [x]=>by simp[ddp]
 | x :: y :: r=>by
  have:=ddp_len (y :: r)
  simp only[ddp]
  split <;> simp at*<;> omega
def At2 (cur:List Value) (b:Nat) (l:List (Int × Int)):Prop:=∀ j x,l[j]? = some x→cur[b+j*2]? = some (.int .i64 x.1)∧cur[b+j*2+1]? = some (.int .i64 x.2)
theorem zj4c {cu:List Value} {a:Nat} {n m:Value} (h:a+2≤cu.length) (j:Nat):(setn (setn cu a n) (a+1) m)[j]? = if j=a then some n else if j=a+1 then some m else cu[j]? := by
 rw[zj12,zj12,List.getElem?_set,List.getElem?_set]
 simp only[List.length_set]
 by_cases h1:j=a
 ·subst h1; simp; omega
 ·by_cases h2:j=a+1
  ·subst h2; simp; omega
  ·rw[if_neg (fun e=>h2 e.symm),if_neg (fun e=>h1 e.symm),if_neg h1,if_neg h2]
theorem At2.snoc {cu:List Value} {b:Nat} {l:List (Int × Int)} {v:Int × Int} (h:At2 cu b l) (hl:b+l.length*2+2≤cu.length):At2 (setn (setn cu (b+l.length*2) (.int .i64 v.1)) (b+l.length*2+1) (.int .i64 v.2)) b (l++[v]):=by
 intro j z hj
 rw[zj4c hl,zj4c hl]
 rcases Nat.lt_trichotomy j l.length with hjl | hjl | hjl
 ·rw[List.getElem?_append_left hjl] at hj
  rw[if_neg (by omega),if_neg (by omega),if_neg (by omega),if_neg (by omega)]
  exact h j z hj
 ·subst hjl
  simp at hj
  subst hj
  rw[if_pos rfl,if_neg (by omega),if_pos rfl]
  exact⟨rfl,rfl⟩
 ·rw[List.getElem?_eq_none (by simp; omega)] at hj
  cases hj
structure CW where
 k:Nat
 k2:Nat
 cur:List Value
theorem compact46r {b0:World} {N:Nat} {st:List Nat} {nt0:Nat} {mk0:List Nat} (g b c:Nat) (cur:List Value) (fs:List (Int × Int)) (W:World) (hn:fs.length≤1000000000) (h2:fs.length≤c) (hc:b+c*2=cur.length) (hcm:c≤maxLen) (hcur:At2 cur b fs)
  (hW:HeapOk ⟨b0,N,st,nt0,mk0⟩ [.row g 33 cur] W) :
  CallsV Tryz.prog 26 [.slice (some ⟨g,b,none⟩) fs.length c] W fun v W'=>v=.slice (some ⟨g,b,none⟩) (ddp fs).length c∧∃ cur',cur'.length=cur.length∧At2 cur' b (ddp fs)∧HeapOk ⟨b0,N,st,nt0,mk0⟩ [.row g 33 cur'] W':=by
 refine zj2z (keep:=K26) (nt:=61) (svs:=[.slc 0 b fs.length c]) Tryz.func26 x26 n26 (by simp) hW (by simp[IsL,Is,blk,nth]) fun R hR=>?_
 (refine Y_go 600 ?_; dsimp only[go_sem,Nat.reduceAdd,Nat.reduceBEq])
 refine⟨fun hlt=>?_,fun hge=>?_⟩
 ·have hlt:fs.length < 2:=by have:=of_decide_eq_true hlt; omega
  have hd:ddp fs=fs:=by
   match fs,hlt with
   | [],_=>rfl
   | [x],_=>rfl
  refine zj03 (vs:=[.slice (some ⟨g,b,none⟩) fs.length c]) r26 rfl rfl fun W' hW'=>hR _ _ ⟨by rw[hd]; rfl,cur,rfl,by rw[hd]; exact hcur,HeapOk.env (E:=⟨b0,N,st,61,[]⟩) (E':=⟨b0,N,st,nt0,mk0⟩) rfl rfl rfl hW'⟩
 ·have hge:2≤fs.length:=by have:=of_decide_eq_false hge; omega
  refine zj0m (α:=Nat) (fun k=>1≤k∧k≤fs.length∧ddp (fs.take k)=fs.take k) (fun _=>⟨b0,N,st,61,[]⟩) (fun k=>{ F:=[(0,.slc 0 b fs.length c),(3,.val (.int .i64 (k:Int)))],H:=[.row g 33 cur] }) (fun k=>fs.length - k) (fun _=>rfl) ?start ?round
  case start =>
   intro a W rep
   refine⟨1,⟨by omega,by omega,?_⟩,rep.lq⟩
   match fs,hge with
   | x :: y :: r,_=>rfl
  case round =>
   intro k ⟨hk1,hkn,hd⟩ I again
   (refine Y_go 600 ?_; dsimp only[go_sem,Nat.reduceBEq])
   refine⟨fun hlt=>?_,fun hlt=>?_⟩
   ·have hlt:k < fs.length:=by have:=of_decide_eq_true hlt; omega
    obtain⟨k,rfl⟩:∃ m,k=m+1:=⟨k - 1,by omega⟩
    have hx:fs[k]? = some fs[k]:=List.getElem?_eq_getElem (by omega)
    have hy:fs[k+1]? = some fs[k+1]:=List.getElem?_eq_getElem hlt
    generalize hxx:fs[k]'(by omega)=x at hx
    generalize hyy:fs[k+1]=y at hy
    obtain⟨x1,x2⟩:=x
    obtain⟨y1,y2⟩:=y
    have cx:=hcur k _ hx
    have cy:=hcur (k+1) _ hy
    have e1:((k+1:Nat):Int).toNat=k+1:=by omega
    have e2:(((k+1:Nat):Int) - 1).toNat=k:=by omega
    refine⟨⟨by omega,by omega⟩,y1,by rw[e1]; exact cy.1,y2,by rw[e1]; exact cy.2,_,ArOk.sub64 (by omega) (by omega),⟨by omega,by omega⟩,x1,by rw[e2]; exact cx.1,x2,by rw[e2]; exact cx.2,fun heq=>⟨⟨by omega,by omega⟩,?_⟩,fun hne=>?_⟩
    ·have heq:(y1,y2)=(x1,x2):=by simpa using heq
     have heq':(x1,x2)=(y1,y2):=heq.symm
     have hd2:ddp (fs.take (k+1+1))=fs.take (k+1):=by
      have:=zj5o hx hy
      rw[if_pos heq'] at this
      rw[this,hd]
     have e3:subO b c ((k+1:Nat):Int).toNat 2=b+(k+1)*2:=by
      unfold subO
      rw[if_neg (by omega),e1]
     rw[e3,e1]
     refine zj0m (α:=CW) (fun x=>(x.k=(ddp (fs.take (k+1+x.k2))).length∧k+1≤x.k∧x.k≤k+x.k2)∧(1≤x.k2∧k+1+x.k2≤fs.length)∧At2 x.cur b (ddp (fs.take (k+1+x.k2)))∧(∀ j z,k+x.k2≤j→fs[j]? = some z→x.cur[b+j*2]? = some (.int .i64 z.1)∧x.cur[b+j*2+1]? = some (.int .i64 z.2))∧x.cur.length=cur.length) (fun _=>⟨b0,N,st,61,[]⟩)
      (fun x=>{ F:=[(0,.slc 0 b fs.length c),(3,.val (.int .i64 (x.k:Int))),(4,.slc 0 (b+(k+1)*2) (fs.length - (k+1)) (c - (k+1))),(5,.val (.int .i64 (x.k2:Int)))],H:=[.row g 33 x.cur] }) (fun x=>fs.length - x.k2) (fun _=>rfl) ?start ?round
     case start =>
      intro a W rep
      refine⟨⟨k+1,1,cur⟩,⟨⟨?_,by simp,by simp⟩,⟨by simp,by simp; omega⟩,?_,fun j z _ hj=>hcur j z hj,rfl⟩,rep.lq⟩
      ·show k+1=(ddp (fs.take (k+1+1))).length
       rw[hd2]; simp; omega
      ·show At2 cur b (ddp (fs.take (k+1+1)))
       rw[hd2]
       intro j z hj
       rw[List.getElem?_take] at hj
       split at hj
       ·exact hcur j z hj
       ·cases hj
     case round =>
      intro x ⟨⟨q1,q2,q3⟩,⟨q4,q5⟩,q6,q7,q8⟩ I2 again2
      obtain⟨kk,k2,cu⟩:=x
      simp only at q1 q2 q3 q4 q5 q6 q7 q8
      (refine Y_go 14 ?_; dsimp only[go_sem,Nat.reduceBEq,Y_0])
      refine⟨fun hlt2=>?_,fun hlt2=>?_⟩
      ·have hlt2:k+1+k2 < fs.length:=by have:=of_decide_eq_true hlt2; omega
       (refine Y_go 600 ?_; dsimp only[go_sem,Nat.reduceBEq,Nat.reduceAdd])
       have hu:fs[k+k2]? = some fs[k+k2]:=List.getElem?_eq_getElem (by omega)
       have hv:fs[k+k2+1]? = some fs[k+k2+1]:=List.getElem?_eq_getElem (by omega)
       generalize fs[k+k2]'(by omega)=u at hu
       generalize fs[k+k2+1]'(by omega)=v at hv
       obtain⟨u1,u2⟩:=u
       obtain⟨v1,v2⟩:=v
       have cu1:=q7 (k+k2) _ (by omega) hu
       have cv1:=q7 (k+k2+1) _ (by omega) hv
       have f1:((k2:Nat):Int).toNat=k2:=by omega
       have f2:((k2 - 1:Nat):Int).toNat=k2 - 1:=by omega
       have f3:((kk:Nat):Int).toNat=kk:=by omega
       have p1:b+(k+1)*2+k2*2=b+(k+k2+1)*2:=by omega
       have p2:b+(k+1)*2+(k2 - 1)*2=b+(k+k2)*2:=by omega
       have w1:k+1+k2=k+k2+1:=by omega
       have w2:k+1+(k2+1)=k+k2+2:=by omega
       have hst:=zj5o hu hv
       rw[w1] at q1 q6
       rw[f1,f3,p1]
       refine⟨⟨by omega,by omega⟩,v1,cv1.1,v2,cv1.2,((k2 - 1:Nat):Int),ArOk.toSub (by omega) (by omega) (by omega),⟨by omega,by omega⟩,u1,by rw[f2,p2]; exact cu1.1,u2,by rw[f2,p2]; exact cu1.2,fun hne=>?_,fun heq=>?_⟩
       ·have hne:¬ (u1,u2)=(v1,v2):=by
         intro h
         simp at h
         simp[h] at hne
        rw[if_neg hne] at hst
        have hfit:b+kk*2+2≤cu.length:=by omega
        refine⟨⟨by omega,by omega⟩,v1,cv1.1,v2,cv1.2,⟨by omega,by omega⟩,hfit,((kk+1:Nat):Int),ArOk.to (by omega) (by omega) (by omega),((k2+1:Nat):Int),ArOk.to (by omega) (by omega) (by omega),zj01 fun a W rep=>again2 ⟨kk+1,k2+1,setn (setn cu (b+kk*2) (.int .i64 v1)) (b+kk*2+1) (.int .i64 v2)⟩ ⟨⟨?_,by simp only; omega,by simp only; omega⟩,⟨by simp only; omega,by simp only; omega⟩,?_,?_,?_⟩ (by simp only; omega) a W (rep.lq)⟩
        ·show kk+1=(ddp (fs.take (k+1+(k2+1)))).length
         rw[w2,hst,q1]; simp
        ·show At2 _ b (ddp (fs.take (k+1+(k2+1))))
         rw[w2,hst,q1]
         exact q6.snoc (v:=(v1,v2)) (by rw[← q1]; exact hfit)
        ·intro j z hj hz
         have hj:k+(k2+1)≤j:=hj
         show (setn (setn cu (b+kk*2) (.int .i64 v1)) (b+kk*2+1) (.int .i64 v2))[b+j*2]? = _∧(setn (setn cu (b+kk*2) (.int .i64 v1)) (b+kk*2+1) (.int .i64 v2))[b+j*2+1]? = _
         rw[zj4c hfit,zj4c hfit,if_neg (by omega),if_neg (by omega),if_neg (by omega),if_neg (by omega)]
         exact q7 j z (by omega) hz
        ·show (setn (setn cu (b+kk*2) (.int .i64 v1)) (b+kk*2+1) (.int .i64 v2)).length=_
         rw[zj12,zj12,List.length_set,List.length_set,q8]
       ·have heq:(u1,u2)=(v1,v2):=by
         simp at heq
         rw[heq.1,heq.2]
        rw[if_pos heq] at hst
        refine⟨((k2+1:Nat):Int),ArOk.to (by omega) (by omega) (by omega),zj01 fun a W rep=>again2 ⟨kk,k2+1,cu⟩ ⟨⟨?_,q2,by simp only; omega⟩,⟨by simp only; omega,by simp only; omega⟩,?_,fun j z hj hz=>q7 j z (by simp only at hj; omega) hz,q8⟩ (by simp only; omega) a W (rep.lq)⟩
        ·show kk=(ddp (fs.take (k+1+(k2+1)))).length
         rw[w2,hst]; exact q1
        ·show At2 _ b (ddp (fs.take (k+1+(k2+1))))
         rw[w2,hst]; exact q6
      ·have hlt2:k+1+k2=fs.length:=by have:=of_decide_eq_false hlt2; omega
       (refine Y_go 3 ?_; dsimp only[go_sem,Nat.reduceBEq,Y_0])
       rw[hlt2,List.take_length] at q1 q6
       have f3:((kk:Nat):Int).toNat=kk:=by omega
       refine⟨⟨by omega,by omega⟩,?_⟩
       have e4:subO b c kk 2=b+kk*2:=by
        unfold subO
        rw[if_neg (by omega)]
       rw[f3,e4]
       have hrl:(repN (fs.length - kk) [Value.int .i64 0,.int .i64 0]).length=(fs.length - kk)*2:=by rw[zj0y]; rfl
       refine clr_rule (i:=0) (off:=b+kk*2) (n:=fs.length - kk) (c:=c - kk) rfl rfl (by omega) (by simp[Value.oneCell']) ?_
       refine zj0n ?_
       (refine Y_go 600 ?_; dsimp only[go_sem,Nat.reduceBEq,Int.reduceToNat])
       refine⟨⟨by omega,by omega⟩,?_⟩
       refine zj03 (vs:=[.slice (some ⟨g,b,none⟩) kk c]) r26 rfl ?_ fun W' hW'=>hR _ _ ⟨by rw[q1]; rfl,splice cu (b+kk*2) (repN (fs.length - kk) [Value.int .i64 0,.int .i64 0]),by rw[zj0h,q8],?_,HeapOk.env (E:=⟨b0,N,st,61,[]⟩) (E':=⟨b0,N,st,nt0,mk0⟩) rfl rfl rfl hW'⟩
       ·show some [Value.slice (some ⟨g,b,none⟩) (((kk:Nat):Int).toNat - 0) (c - 0)]=_
        rw[f3]; rfl
       ·intro j z hj
        have hjl:j < kk:=by
         rw[q1]
         rcases Nat.lt_or_ge j (ddp fs).length with h | h
         ·exact h
         ·rw[List.getElem?_eq_none h] at hj; cases hj
        rw[zj13 _ _ _ _ (by omega),zj13 _ _ _ _ (by omega),if_neg (by omega),if_neg (by omega)]
        exact q6 j z hj
    ·have hne:¬ (x1,x2)=(y1,y2):=by
      intro h
      simp at h
      simp[h] at hne
     refine⟨((k+1+1:Nat):Int),ArOk.to (by omega) (by omega) (by omega),zj01 fun a W rep=>again (k+1+1) ⟨by omega,by omega,?_⟩ (by omega) a W (rep.lq)⟩
     have:=zj5o hx hy
     rw[if_neg hne,hd] at this
     rw[this,zj4b hy]
   ·have hlt:k=fs.length:=by have:=of_decide_eq_false hlt; omega
    subst hlt
    have hd:ddp fs=fs:=by simpa using hd
    refine zj03 (vs:=[.slice (some ⟨g,b,none⟩) fs.length c]) r26 rfl rfl fun W' hW'=>hR _ _ ⟨by rw[hd]; rfl,cur,rfl,by rw[hd]; exact hcur,HeapOk.env (E:=⟨b0,N,st,61,[]⟩) (E':=⟨b0,N,st,nt0,mk0⟩) rfl rfl rfl hW'⟩
theorem compact46_0 (A:Option Addr) (W:World):CallsV Tryz.prog 26 [.slice A 0 0] W fun v W'=>v=.slice A 0 0∧Fresh W W':=by
 refine zj05 (keep:=K26) (nt:=61) (svs:=[.val (.slice A 0 0)]) Tryz.func26 x26 n26 (by simp) (by simp[IsL,Is]) fun R hR=>?_
 (refine Y_go 600 ?_; dsimp only[go_sem,Nat.reduceAdd,Nat.reduceBEq])
 refine⟨fun hlt=>?_,fun hge=>?_⟩
 ·exact zj03 (vs:=[.slice A 0 0]) r26 rfl rfl fun W' hW'=>hR _ _ ⟨rfl,hW'.fresh'⟩
 ·cases hge
theorem fsV_get (l:List (Int × Int)) (j:Nat) (x:Int × Int) (h:l[j]? = some x):(fsV l)[j*2]? = some (.int .i64 x.1)∧(fsV l)[j*2+1]? = some (.int .i64 x.2):=by
 induction l generalizing j with
 | nil=>simp at h
 | cons y r ih =>
  have hx:fsV (y :: r)=.int .i64 y.1 :: .int .i64 y.2 :: fsV r:=rfl
  rw[hx]
  cases j with
  | zero=>simp at h; subst h; exact⟨rfl,rfl⟩
  | succ j =>
   have:=ih j (by simpa using h)
   have e1:(j+1)*2=j*2+1+1:=by omega
   rw[e1]
   simpa using this
theorem At2.take {cur:List Value} {b:Nat} {l:List (Int × Int)} (h:At2 cur b l):(cur.drop b).take (l.length*2)=fsV l:=by
 apply List.ext_getElem?
 intro t
 by_cases ht:t < l.length*2
 ·rw[List.getElem?_take,if_pos ht,List.getElem?_drop]
  obtain⟨j,hj⟩:∃ j,t=j*2∨t=j*2+1:=⟨t / 2,by omega⟩
  have hx:l[j]? = some l[j]:=List.getElem?_eq_getElem (by omega)
  have h1:=h _ _ hx
  have h2:=fsV_get _ _ _ hx
  rcases hj with rfl | rfl
  ·rw[h1.1,h2.1]
  ·rw[← Nat.add_assoc,h1.2,h2.2]
 ·rw[List.getElem?_eq_none (by simp; omega),List.getElem?_eq_none (by rw[zj3f]; omega)]
theorem compact46 {E:Env} {H:List SO} {W:World} {i ver:Nat} {A:Option Addr} {c:Nat} {fs:List (Int × Int)} (hW:HeapOk E H W) (hi:nth H i=some (.own 33 ver 2 A fs.length c (fsV fs))) (hn:fs.length≤1000000000) :
  CallsV Tryz.prog 26 [.slice A fs.length c] W fun v W'=>v=.slice A (ddp fs).length c∧HExt H (setn H i (.own 33 (ver+1) 2 A (ddp fs).length c (fsV (ddp fs))))∧HeapOk E (setn H i (.own 33 (ver+1) 2 A (ddp fs).length c (fsV (ddp fs)))) W':=by
 have hext:HExt H (setn H i (.own 33 (ver+1) 2 A (ddp fs).length c (fsV (ddp fs)))):=HExt.setOwn hi (Nat.le_succ _) fun h=>absurd h (by omega)
 have he0:=hW.ents i _ hi
 obtain⟨hl,⟨h1,h2,h3⟩ | ⟨g,b,cur,rfl,hg,h1,h2,h3,h4⟩⟩:=he0
 ·have h0:fs=[]:=List.length_eq_zero_iff.1 h1
  subst h0
  subst h2
  refine (compact46_0 A W).mono fun v W' ⟨hv,hf⟩=>⟨hv,hext,?_⟩
  refine HeapOk.set (hW.freshK hf) hi hext (fun g hg=>.inl hg) (fun _ _ _=>rfl) (Nat.le_refl _) rfl rfl rfl ?_
  have:=(hW.freshK hf).ents i _ hi
  exact⟨by simp[ddp,fsV],.inl ⟨rfl,rfl,fun a ha=>by
   obtain⟨_,⟨_,_,h5⟩ | ⟨g',b',cur',e1,e2,_⟩⟩:=this
   ·exact h5 a ha
   ·rw[e1] at ha; injection ha with ha; subst ha; exact⟨_,e2⟩⟩⟩
 ·have hg:W.heap[g]? = some (.cells cur 33 (0,0)):=hg
  have hgl:g < W.heap.size:=by
   rcases Nat.lt_or_ge g W.heap.size with h | h
   ·exact h
   ·rw[Array.getElem?_eq_none h] at hg
    cases hg
  have hcur:At2 cur.toList b fs:=by
   intro j x hj
   have hjl:j < fs.length:=by
    rcases Nat.lt_or_ge j fs.length with h | h
    ·exact h
    ·rw[List.getElem?_eq_none h] at hj; cases hj
   have:=fsV_get fs j x hj
   rw[← h4,List.getElem?_take,List.getElem?_take,List.getElem?_drop,List.getElem?_drop,if_pos (by omega),if_pos (by omega)] at this
   exact⟨this.1,by rw[Nat.add_assoc]; exact this.2⟩
  have h0:HeapOk ⟨W,W.heap.size,[g],0,[]⟩ [.row g 33 cur.toList] W:=by
   refine⟨Keep.refl _ _,Nat.le_refl _,fun j e hj=>?_,fun j e g' hj hg'=>?_,fun j j' e e' g' hne hj hj' _ _=>?_⟩
   ·have:j < 1:=nth_lt hj
    obtain rfl:j=0:=by omega
    injection hj with hj; subst hj
    show W.heap[g]? = _
    rw[hg]
   ·have:j < 1:=nth_lt hj
    obtain rfl:j=0:=by omega
    injection hj with hj; subst hj
    injection hg' with hg'; subst hg'
    exact⟨hgl,fun ho=>ho.2 (by simp)⟩
   ·have q1:j < 1:=nth_lt hj
    have q2:j' < 1:=nth_lt hj'
    exact absurd (show j=j' by omega) hne
  refine (compact46r g b c cur.toList fs W hn h1 (by simpa using h3) h2 hcur h0).mono fun v W' ⟨hv,cur',hl',ha',hk⟩=>⟨hv,hext,?_⟩
  have hold:∀ j,j ≠ g→j < W.heap.size→Env.old ⟨W,W.heap.size,[g],0,[]⟩ j:=fun j hj hlt=>⟨hlt,by simpa using hj⟩
  have hg2:W'.heap[g]? = some (.cells cur'.toArray 33 (0,0)):=hk.ents 0 _ rfl
  have hdl:=ddp_len fs
  refine hW.set hi hext (fun g' hg'=>.inl hg') (fun j hj hlt=>hk.keep.block j (hold j (fun e=>hj (by rw[e]; rfl)) hlt)) hk.keep.size hk.keep.os hk.keep.tape hk.keep.output ?_
  exact⟨by rw[zj3f],.inr ⟨g,b,cur'.toArray,rfl,hg2,by omega,h2,by simp only[List.size_toArray]; rw[hl']; simpa using h3,ha'.take⟩⟩
end Go.Proofs.YtgghmmjoplddbaaGreatDoor
