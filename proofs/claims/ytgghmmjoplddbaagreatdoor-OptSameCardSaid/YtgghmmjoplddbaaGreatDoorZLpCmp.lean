/- slices.Compact at found. -/
import Derived.Test.YtgghmmjoplddbaaGreatDoorZLpW5
import Derived.Shelf.Lay
import Derived.Sort.Grow
import Derived.WalkKit
import Derived.Deep.RegionHeld
import Derived.Deep.RegionWith
import Derived.Deep.Draws
import Derived.Deep.LoopGhost
import Derived.Ground.NamesProg
import Derived.Shelf.SlSortCmp.NoneTotal
import Derived.Ground.SlsfProg
set_option linter.unusedSimpArgs false
set_option linter.unusedVariables false
set_option linter.unnecessarySimpa false
namespace Go.Proofs.YtgghmmjoplddbaaGreatDoor
open Go Go.Sx Go.Isa Go.Lint
set_option maxRecDepth 100000
def ddp:List (Int × Int)→List (Int × Int)
 | []=>[]
 | [x]=>[x]
 | x :: y :: r=>if x=y then ddp (y :: r) else x :: ddp (y :: r)
theorem zj7r (y:Int × Int):∀ (l:List (Int × Int)) (x:Int × Int),ddp (l++[x]++[y])=if x=y then ddp (l++[x]) else ddp (l++[x])++[y]
 | [],x=>by
  by_cases h:x=y
  ·subst h; simp[ddp]
  ·simp[ddp,h]
 | [a],x=>by
  have:=zj7r y [] x
  simp only[List.nil_append,List.cons_append] at *
  by_cases h:a=x
  ·simp only[ddp,h,if_true] at *
   split <;> simp_all
  ·simp only[ddp,h,if_false] at *
   split <;> simp_all
 | a :: c :: l,x=>by
  have:=zj7r y (c :: l) x
  simp only[List.cons_append] at *
  by_cases h:a=c
  ·simp only[ddp,h,if_true] at *
   exact this
  ·simp only[ddp,h,if_false] at *
   rw[this]
   split <;> simp
theorem zj5l {l:List (Int × Int)} {k:Nat} {x:Int × Int} (h:l[k]? = some x):l.take (k+1)=l.take k++[x]:=by
 rw[List.take_add_one,h]; rfl
theorem zj7s {l:List (Int × Int)} {k:Nat} {x y:Int × Int} (hx:l[k]? = some x) (hy:l[k+1]? = some y):ddp (l.take (k+2))=if x=y then ddp (l.take (k+1)) else ddp (l.take (k+1))++[y]:=by
 rw[zj5l hy,zj5l hx]
 exact zj7r y _ x
theorem ddp_len:∀ (l:List (Int × Int)),(ddp l).length≤l.length
 | []=>by simp[ddp]
 | [x]=>by simp[ddp]
 | x :: y :: r=>by
  have:=ddp_len (y :: r)
  simp only[ddp]
  split <;> simp at*<;> omega
def At2 (cur:List Value) (b:Nat) (l:List (Int × Int)):Prop:=∀ j x,l[j]? = some x→cur[b+j*2]? = some (.int .i64 x.1)∧cur[b+j*2+1]? = some (.int .i64 x.2)
theorem zj5m {cu:List Value} {a:Nat} {n m:Value} (h:a+2≤cu.length) (j:Nat):(setn (setn cu a n) (a+1) m)[j]? = if j=a then some n else if j=a+1 then some m else cu[j]? := by
 rw[zj0k,zj0k,List.getElem?_set,List.getElem?_set]
 simp only[List.length_set]
 by_cases h1:j=a
 ·subst h1; simp; omega
 ·by_cases h2:j=a+1
  ·subst h2; simp; omega
  ·rw[if_neg (fun e=>h2 e.symm),if_neg (fun e=>h1 e.symm),if_neg h1,if_neg h2]
theorem At2.snoc {cu:List Value} {b:Nat} {l:List (Int × Int)} {v:Int × Int} (h:At2 cu b l) (hl:b+l.length*2+2≤cu.length):At2 (setn (setn cu (b+l.length*2) (.int .i64 v.1)) (b+l.length*2+1) (.int .i64 v.2)) b (l++[v]):=by
 intro j z hj
 rw[zj5m hl,zj5m hl]
 rcases Nat.lt_trichotomy j l.length with hjl | hjl | hjl
 ·rw[List.getElem?_append_left hjl] at hj
  rw[if_neg (by omega),if_neg (by omega),if_neg (by omega),if_neg (by omega)]
  exact h j z hj
 ·subst hjl
  simp at hj
  subst hj
  rw[if_pos rfl,if_neg (by omega),if_pos rfl]
  exact⟨rfl,rfl⟩
 ·rw[List.getElem?_eq_none (by simp; omega)] at hj
  cases hj
structure CW where
 k:Nat
 k2:Nat
 cur:List Value
theorem compact46r {b0:World} {N:Nat} {st:List Nat} {nt0:Nat} {mk0:List Nat} (g b c:Nat) (cur:List Value) (fs:List (Int × Int)) (W:World) (hn:fs.length≤1000000000) (h2:fs.length≤c) (hc:b+c*2=cur.length) (hcm:c≤maxLen) (hcur:At2 cur b fs)
  (hW:HeapOk ⟨b0,N,st,nt0,mk0⟩ [.row g 33 cur] W) :
  CallsV Tryz.prog 26 [.slice (some ⟨g,b,none⟩) fs.length c] W fun v W'=>v=.slice (some ⟨g,b,none⟩) (ddp fs).length c∧∃ cur',cur'.length=cur.length∧At2 cur' b (ddp fs)∧HeapOk ⟨b0,N,st,nt0,mk0⟩ [.row g 33 cur'] W':=by
 refine zj0j (keep:=K26) (nt:=61) (svs:=[.slc 0 b fs.length c]) Tryz.func26 x26 n26 (by simp) hW (by simp[IsL,Is,blk,nth]) fun R hR=>?_
 (refine Y_go 600 ?_; dsimp only[go_sem,Nat.reduceAdd,Nat.reduceBEq])
 refine⟨fun hlt=>?_,fun hge=>?_⟩
 ·have hlt:fs.length < 2:=by have:=of_decide_eq_true hlt; omega
  have hd:ddp fs=fs:=by
   match fs,hlt with
   | [],_=>rfl
   | [x],_=>rfl
  refine zj01 (vs:=[.slice (some ⟨g,b,none⟩) fs.length c]) r26 rfl rfl fun W' hW'=>hR _ _ ⟨by rw[hd]; rfl,cur,rfl,by rw[hd]; exact hcur,HeapOk.env (E:=⟨b0,N,st,61,[]⟩) (E':=⟨b0,N,st,nt0,mk0⟩) rfl rfl rfl hW'⟩
 ·have hge:2≤fs.length:=by have:=of_decide_eq_false hge; omega
  refine zj08 (α:=Nat) (fun k=>1≤k∧k≤fs.length∧ddp (fs.take k)=fs.take k) (fun _=>⟨b0,N,st,61,[]⟩) (fun k=>{ F:=[(0,.slc 0 b fs.length c),(3,.val (.int .i64 (k:Int)))],H:=[.row g 33 cur] }) (fun k=>fs.length - k) (fun _=>rfl) ?start ?round
  case start =>
   intro a W rep
   refine⟨1,⟨by omega,by omega,?_⟩,rep.lq⟩
   match fs,hge with
   | x :: y :: r,_=>rfl
  case round =>
   intro k ⟨hk1,hkn,hd⟩ I again
   (refine Y_go 600 ?_; dsimp only[go_sem,Nat.reduceBEq])
   refine⟨fun hlt=>?_,fun hlt=>?_⟩
   ·have hlt:k < fs.length:=by have:=of_decide_eq_true hlt; omega
    obtain⟨k,rfl⟩:∃ m,k=m+1:=⟨k - 1,by omega⟩
    have hx:fs[k]? = some fs[k]:=List.getElem?_eq_getElem (by omega)
    have hy:fs[k+1]? = some fs[k+1]:=List.getElem?_eq_getElem hlt
    generalize hxx:fs[k]'(by omega)=x at hx
    generalize hyy:fs[k+1]=y at hy
    obtain⟨x1,x2⟩:=x
    obtain⟨y1,y2⟩:=y
    have cx:=hcur k _ hx
    have cy:=hcur (k+1) _ hy
    have e1:((k+1:Nat):Int).toNat=k+1:=by omega
    have e2:(((k+1:Nat):Int) - 1).toNat=k:=by omega
    refine⟨⟨by omega,by omega⟩,y1,by rw[e1]; exact cy.1,y2,by rw[e1]; exact cy.2,_,ArOk.sub64 (by omega) (by omega),⟨by omega,by omega⟩,x1,by rw[e2]; exact cx.1,x2,by rw[e2]; exact cx.2,fun heq=>⟨⟨by omega,by omega⟩,?_⟩,fun hne=>?_⟩
    ·have heq:(y1,y2)=(x1,x2):=by simpa using heq
     have heq':(x1,x2)=(y1,y2):=heq.symm
     have hd2:ddp (fs.take (k+1+1))=fs.take (k+1):=by
      have:=zj7s hx hy
      rw[if_pos heq'] at this
      rw[this,hd]
     have e3:subO b c ((k+1:Nat):Int).toNat 2=b+(k+1)*2:=by
      unfold subO
      rw[if_neg (by omega),e1]
     rw[e3,e1]
     refine zj08 (α:=CW) (fun x=>(x.k=(ddp (fs.take (k+1+x.k2))).length∧k+1≤x.k∧x.k≤k+x.k2)∧(1≤x.k2∧k+1+x.k2≤fs.length)∧At2 x.cur b (ddp (fs.take (k+1+x.k2)))∧(∀ j z,k+x.k2≤j→fs[j]? = some z→x.cur[b+j*2]? = some (.int .i64 z.1)∧x.cur[b+j*2+1]? = some (.int .i64 z.2))∧x.cur.length=cur.length) (fun _=>⟨b0,N,st,61,[]⟩)
      (fun x=>{ F:=[(0,.slc 0 b fs.length c),(3,.val (.int .i64 (x.k:Int))),(4,.slc 0 (b+(k+1)*2) (fs.length - (k+1)) (c - (k+1))),(5,.val (.int .i64 (x.k2:Int)))],H:=[.row g 33 x.cur] }) (fun x=>fs.length - x.k2) (fun _=>rfl) ?start ?round
     case start =>
      intro a W rep
      refine⟨⟨k+1,1,cur⟩,⟨⟨?_,by simp,by simp⟩,⟨by simp,by simp; omega⟩,?_,fun j z _ hj=>hcur j z hj,rfl⟩,rep.lq⟩
      ·show k+1=(ddp (fs.take (k+1+1))).length
       rw[hd2]; simp; omega
      ·show At2 cur b (ddp (fs.take (k+1+1)))
       rw[hd2]
       intro j z hj
       rw[List.getElem?_take] at hj
       split at hj
       ·exact hcur j z hj
       ·cases hj
     case round =>
      intro x ⟨⟨q1,q2,q3⟩,⟨q4,q5⟩,q6,q7,q8⟩ I2 again2
      obtain⟨kk,k2,cu⟩:=x
      simp only at q1 q2 q3 q4 q5 q6 q7 q8
      (refine Y_go 14 ?_; dsimp only[go_sem,Nat.reduceBEq,Y_0])
      refine⟨fun hlt2=>?_,fun hlt2=>?_⟩
      ·have hlt2:k+1+k2 < fs.length:=by have:=of_decide_eq_true hlt2; omega
       (refine Y_go 600 ?_; dsimp only[go_sem,Nat.reduceBEq,Nat.reduceAdd])
       have hu:fs[k+k2]? = some fs[k+k2]:=List.getElem?_eq_getElem (by omega)
       have hv:fs[k+k2+1]? = some fs[k+k2+1]:=List.getElem?_eq_getElem (by omega)
       generalize fs[k+k2]'(by omega)=u at hu
       generalize fs[k+k2+1]'(by omega)=v at hv
       obtain⟨u1,u2⟩:=u
       obtain⟨v1,v2⟩:=v
       have cu1:=q7 (k+k2) _ (by omega) hu
       have cv1:=q7 (k+k2+1) _ (by omega) hv
       have f1:((k2:Nat):Int).toNat=k2:=by omega
       have f2:((k2 - 1:Nat):Int).toNat=k2 - 1:=by omega
       have f3:((kk:Nat):Int).toNat=kk:=by omega
       have p1:b+(k+1)*2+k2*2=b+(k+k2+1)*2:=by omega
       have p2:b+(k+1)*2+(k2 - 1)*2=b+(k+k2)*2:=by omega
       have w1:k+1+k2=k+k2+1:=by omega
       have w2:k+1+(k2+1)=k+k2+2:=by omega
       have hst:=zj7s hu hv
       rw[w1] at q1 q6
       rw[f1,f3,p1]
       refine⟨⟨by omega,by omega⟩,v1,cv1.1,v2,cv1.2,((k2 - 1:Nat):Int),ArOk.toSub (by omega) (by omega) (by omega),⟨by omega,by omega⟩,u1,by rw[f2,p2]; exact cu1.1,u2,by rw[f2,p2]; exact cu1.2,fun hne=>?_,fun heq=>?_⟩
       ·have hne:¬ (u1,u2)=(v1,v2):=by
         intro h
         simp at h
         simp[h] at hne
        rw[if_neg hne] at hst
        have hfit:b+kk*2+2≤cu.length:=by omega
        refine⟨⟨by omega,by omega⟩,v1,cv1.1,v2,cv1.2,⟨by omega,by omega⟩,hfit,((kk+1:Nat):Int),ArOk.to (by omega) (by omega) (by omega),((k2+1:Nat):Int),ArOk.to (by omega) (by omega) (by omega),zj02 fun a W rep=>again2 ⟨kk+1,k2+1,setn (setn cu (b+kk*2) (.int .i64 v1)) (b+kk*2+1) (.int .i64 v2)⟩ ⟨⟨?_,by simp only; omega,by simp only; omega⟩,⟨by simp only; omega,by simp only; omega⟩,?_,?_,?_⟩ (by simp only; omega) a W (rep.lq)⟩
        ·show kk+1=(ddp (fs.take (k+1+(k2+1)))).length
         rw[w2,hst,q1]; simp
        ·show At2 _ b (ddp (fs.take (k+1+(k2+1))))
         rw[w2,hst,q1]
         exact q6.snoc (v:=(v1,v2)) (by rw[← q1]; exact hfit)
        ·intro j z hj hz
         have hj:k+(k2+1)≤j:=hj
         show (setn (setn cu (b+kk*2) (.int .i64 v1)) (b+kk*2+1) (.int .i64 v2))[b+j*2]? = _∧(setn (setn cu (b+kk*2) (.int .i64 v1)) (b+kk*2+1) (.int .i64 v2))[b+j*2+1]? = _
         rw[zj5m hfit,zj5m hfit,if_neg (by omega),if_neg (by omega),if_neg (by omega),if_neg (by omega)]
         exact q7 j z (by omega) hz
        ·show (setn (setn cu (b+kk*2) (.int .i64 v1)) (b+kk*2+1) (.int .i64 v2)).length=_
         rw[zj0k,zj0k,List.length_set,List.length_set,q8]
       ·have heq:(u1,u2)=(v1,v2):=by
         simp at heq
         rw[heq.1,heq.2]
        rw[if_pos heq] at hst
        refine⟨((k2+1:Nat):Int),ArOk.to (by omega) (by omega) (by omega),zj02 fun a W rep=>again2 ⟨kk,k2+1,cu⟩ ⟨⟨?_,q2,by simp only; omega⟩,⟨by simp only; omega,by simp only; omega⟩,?_,fun j z hj hz=>q7 j z (by simp only at hj; omega) hz,q8⟩ (by simp only; omega) a W (rep.lq)⟩
        ·show kk=(ddp (fs.take (k+1+(k2+1)))).length
         rw[w2,hst]; exact q1
        ·show At2 _ b (ddp (fs.take (k+1+(k2+1))))
         rw[w2,hst]; exact q6
      ·have hlt2:k+1+k2=fs.length:=by have:=of_decide_eq_false hlt2; omega
       (refine Y_go 3 ?_; dsimp only[go_sem,Nat.reduceBEq,Y_0])
       rw[hlt2,List.take_length] at q1 q6
       have f3:((kk:Nat):Int).toNat=kk:=by omega
       refine⟨⟨by omega,by omega⟩,?_⟩
       have e4:subO b c kk 2=b+kk*2:=by
        unfold subO
        rw[if_neg (by omega)]
       rw[f3,e4]
       have hrl:(repN (fs.length - kk) [Value.int .i64 0,.int .i64 0]).length=(fs.length - kk)*2:=by rw[zj14]; rfl
       refine clr_rule (i:=0) (off:=b+kk*2) (n:=fs.length - kk) (c:=c - kk) rfl rfl (by omega) (by simp[Value.oneCell']) ?_
       refine zj0z ?_
       (refine Y_go 600 ?_; dsimp only[go_sem,Nat.reduceBEq,Int.reduceToNat])
       refine⟨⟨by omega,by omega⟩,?_⟩
       refine zj01 (vs:=[.slice (some ⟨g,b,none⟩) kk c]) r26 rfl ?_ fun W' hW'=>hR _ _ ⟨by rw[q1]; rfl,splice cu (b+kk*2) (repN (fs.length - kk) [Value.int .i64 0,.int .i64 0]),by rw[zj0l,q8],?_,HeapOk.env (E:=⟨b0,N,st,61,[]⟩) (E':=⟨b0,N,st,nt0,mk0⟩) rfl rfl rfl hW'⟩
       ·show some [Value.slice (some ⟨g,b,none⟩) (((kk:Nat):Int).toNat - 0) (c - 0)]=_
        rw[f3]; rfl
       ·intro j z hj
        have hjl:j < kk:=by
         rw[q1]
         rcases Nat.lt_or_ge j (ddp fs).length with h | h
         ·exact h
         ·rw[List.getElem?_eq_none h] at hj; cases hj
        rw[zj0m _ _ _ _ (by omega),zj0m _ _ _ _ (by omega),if_neg (by omega),if_neg (by omega)]
        exact q6 j z hj
    ·have hne:¬ (x1,x2)=(y1,y2):=by
      intro h
      simp at h
      simp[h] at hne
     refine⟨((k+1+1:Nat):Int),ArOk.to (by omega) (by omega) (by omega),zj02 fun a W rep=>again (k+1+1) ⟨by omega,by omega,?_⟩ (by omega) a W (rep.lq)⟩
     have:=zj7s hx hy
     rw[if_neg hne,hd] at this
     rw[this,zj5l hy]
   ·have hlt:k=fs.length:=by have:=of_decide_eq_false hlt; omega
    subst hlt
    have hd:ddp fs=fs:=by simpa using hd
    refine zj01 (vs:=[.slice (some ⟨g,b,none⟩) fs.length c]) r26 rfl rfl fun W' hW'=>hR _ _ ⟨by rw[hd]; rfl,cur,rfl,by rw[hd]; exact hcur,HeapOk.env (E:=⟨b0,N,st,61,[]⟩) (E':=⟨b0,N,st,nt0,mk0⟩) rfl rfl rfl hW'⟩
theorem compact46_0 (A:Option Addr) (W:World):CallsV Tryz.prog 26 [.slice A 0 0] W fun v W'=>v=.slice A 0 0∧Fresh W W':=by
 refine zj03 (keep:=K26) (nt:=61) (svs:=[.val (.slice A 0 0)]) Tryz.func26 x26 n26 (by simp) (by simp[IsL,Is]) fun R hR=>?_
 (refine Y_go 600 ?_; dsimp only[go_sem,Nat.reduceAdd,Nat.reduceBEq])
 refine⟨fun hlt=>?_,fun hge=>?_⟩
 ·exact zj01 (vs:=[.slice A 0 0]) r26 rfl rfl fun W' hW'=>hR _ _ ⟨rfl,hW'.fresh'⟩
 ·cases hge
theorem fsV_get (l:List (Int × Int)) (j:Nat) (x:Int × Int) (h:l[j]? = some x):(fsV l)[j*2]? = some (.int .i64 x.1)∧(fsV l)[j*2+1]? = some (.int .i64 x.2):=by
 induction l generalizing j with
 | nil=>simp at h
 | cons y r ih =>
  have hx:fsV (y :: r)=.int .i64 y.1 :: .int .i64 y.2 :: fsV r:=rfl
  rw[hx]
  cases j with
  | zero=>simp at h; subst h; exact⟨rfl,rfl⟩
  | succ j =>
   have:=ih j (by simpa using h)
   have e1:(j+1)*2=j*2+1+1:=by omega
   rw[e1]
   simpa using this
theorem At2.take {cur:List Value} {b:Nat} {l:List (Int × Int)} (h:At2 cur b l):(cur.drop b).take (l.length*2)=fsV l:=by
 apply List.ext_getElem?
 intro t
 by_cases ht:t < l.length*2
 ·rw[List.getElem?_take,if_pos ht,List.getElem?_drop]
  obtain⟨j,hj⟩:∃ j,t=j*2∨t=j*2+1:=⟨t / 2,by omega⟩
  have hx:l[j]? = some l[j]:=List.getElem?_eq_getElem (by omega)
  have h1:=h _ _ hx
  have h2:=fsV_get _ _ _ hx
  rcases hj with rfl | rfl
  ·rw[h1.1,h2.1]
  ·rw[← Nat.add_assoc,h1.2,h2.2]
 ·rw[List.getElem?_eq_none (by simp; omega),List.getElem?_eq_none (by rw[zj4n]; omega)]
theorem compact46 {E:Env} {H:List SO} {W:World} {i ver:Nat} {A:Option Addr} {c:Nat} {fs:List (Int × Int)} (hW:HeapOk E H W) (hi:nth H i=some (.own 33 ver 2 A fs.length c (fsV fs))) (hn:fs.length≤1000000000) :
  CallsV Tryz.prog 26 [.slice A fs.length c] W fun v W'=>v=.slice A (ddp fs).length c∧HExt H (setn H i (.own 33 (ver+1) 2 A (ddp fs).length c (fsV (ddp fs))))∧HeapOk E (setn H i (.own 33 (ver+1) 2 A (ddp fs).length c (fsV (ddp fs)))) W':=by
 have hext:HExt H (setn H i (.own 33 (ver+1) 2 A (ddp fs).length c (fsV (ddp fs)))):=HExt.setOwn hi (Nat.le_succ _) fun h=>absurd h (by omega)
 have he0:=hW.ents i _ hi
 obtain⟨hl,⟨h1,h2,h3⟩ | ⟨g,b,cur,rfl,hg,h1,h2,h3,h4⟩⟩:=he0
 ·have h0:fs=[]:=List.length_eq_zero_iff.1 h1
  subst h0
  subst h2
  refine (compact46_0 A W).mono fun v W' ⟨hv,hf⟩=>⟨hv,hext,?_⟩
  refine HeapOk.set (hW.freshK hf) hi hext (fun g hg=>.inl hg) (fun _ _ _=>rfl) (Nat.le_refl _) rfl rfl rfl ?_
  have:=(hW.freshK hf).ents i _ hi
  exact⟨by simp[ddp,fsV],.inl ⟨rfl,rfl,fun a ha=>by
   obtain⟨_,⟨_,_,h5⟩ | ⟨g',b',cur',e1,e2,_⟩⟩:=this
   ·exact h5 a ha
   ·rw[e1] at ha; injection ha with ha; subst ha; exact⟨_,e2⟩⟩⟩
 ·have hg:W.heap[g]? = some (.cells cur 33 (0,0)):=hg
  have hgl:g < W.heap.size:=by
   rcases Nat.lt_or_ge g W.heap.size with h | h
   ·exact h
   ·rw[Array.getElem?_eq_none h] at hg
    cases hg
  have hcur:At2 cur.toList b fs:=by
   intro j x hj
   have hjl:j < fs.length:=by
    rcases Nat.lt_or_ge j fs.length with h | h
    ·exact h
    ·rw[List.getElem?_eq_none h] at hj; cases hj
   have:=fsV_get fs j x hj
   rw[← h4,List.getElem?_take,List.getElem?_take,List.getElem?_drop,List.getElem?_drop,if_pos (by omega),if_pos (by omega)] at this
   exact⟨this.1,by rw[Nat.add_assoc]; exact this.2⟩
  have h0:HeapOk ⟨W,W.heap.size,[g],0,[]⟩ [.row g 33 cur.toList] W:=by
   refine⟨Keep.refl _ _,Nat.le_refl _,fun j e hj=>?_,fun j e g' hj hg'=>?_,fun j j' e e' g' hne hj hj' _ _=>?_⟩
   ·have:j < 1:=nth_lt hj
    obtain rfl:j=0:=by omega
    injection hj with hj; subst hj
    show W.heap[g]? = _
    rw[hg]
   ·have:j < 1:=nth_lt hj
    obtain rfl:j=0:=by omega
    injection hj with hj; subst hj
    injection hg' with hg'; subst hg'
    exact⟨hgl,fun ho=>ho.2 (by simp)⟩
   ·have q1:j < 1:=nth_lt hj
    have q2:j' < 1:=nth_lt hj'
    exact absurd (show j=j' by omega) hne
  refine (compact46r g b c cur.toList fs W hn h1 (by simpa using h3) h2 hcur h0).mono fun v W' ⟨hv,cur',hl',ha',hk⟩=>⟨hv,hext,?_⟩
  have hold:∀ j,j ≠ g→j < W.heap.size→Env.old ⟨W,W.heap.size,[g],0,[]⟩ j:=fun j hj hlt=>⟨hlt,by simpa using hj⟩
  have hg2:W'.heap[g]? = some (.cells cur'.toArray 33 (0,0)):=hk.ents 0 _ rfl
  have hdl:=ddp_len fs
  refine hW.set hi hext (fun g' hg'=>.inl hg') (fun j hj hlt=>hk.keep.block j (hold j (fun e=>hj (by rw[e]; rfl)) hlt)) hk.keep.size hk.keep.os hk.keep.tape hk.keep.output ?_
  exact⟨by rw[zj4n],.inr ⟨g,b,cur'.toArray,rfl,hg2,by omega,h2,by simp only[List.size_toArray]; rw[hl']; simpa using h3,ha'.take⟩⟩
end Go.Proofs.YtgghmmjoplddbaaGreatDoor
namespace Go.Proofs.YtgghmmjoplddbaaGreatDoor
open Go Go.Proofs Go.Shelf Go.RowKit Go.Sort
set_option linter.unusedVariables false
set_option maxRecDepth 100000
set_option maxHeartbeats 1000000 in
theorem or44 (a b:Int) (g:Nat) (W:World) (h0:W.cell? ⟨g,0,none⟩=some (.int .i64 a)) (h1:W.cell? ⟨g,1,none⟩=some (.int .i64 b)) :
  Calls Tryz.prog 24 #[.slice (some ⟨g,0,none⟩) 2 2] W fun e w'=>e=.returned (.int .i64 (if a=0 then b else a))∧w'=W:=by
 by_cases ha:a=0
 ·subst ha
  by_cases hb:b=0
  ·subst hb
   go_enter Tryz.func24,Tryz.ntmps24
   go_wp2
   refine wp_loop_rounds 3 ?_
   rw[rounds_succ]
   go_wp2
   rw[rounds_succ]
   go_wp2
   rw[rounds_succ]
   go_wp2
   go_ret
   exact⟨rfl,rfl⟩
  ·go_enter Tryz.func24,Tryz.ntmps24
   go_wp2
   refine wp_loop_rounds 2 ?_
   rw[rounds_succ]
   go_wp2
   rw[rounds_succ]
   go_wp2
   go_ret
   exact⟨rfl,rfl⟩
 ·go_enter Tryz.func24,Tryz.ntmps24
  go_wp2
  refine wp_loop_rounds 1 ?_
  rw[rounds_succ]
  go_wp2
  go_ret
  exact⟨rfl,rfl⟩
theorem nan77 (x:Int) (W:World):Calls Tryz.prog 47 #[.int .i64 x] W fun e w'=>e=.returned (.bool false)∧w'=W:=by
 go_enter Tryz.func47,Tryz.ntmps47
 go_wp2
 go_ret
 exact⟨by simp,rfl⟩
set_option maxHeartbeats 1000000 in
theorem compare45 (x y:Int) (W:World):Calls Tryz.prog 25 #[.int .i64 x,.int .i64 y] W fun e w'=>e=.returned (.int .i64 (if x < y then -1 else if y < x then 1 else 0))∧w'=W:=by
 have hn:∀ x W',Calls Tryz.prog 47 #[.int .i64 x] W' fun e w'=>e=.returned (.bool false)∧w'=W':=nan77
 by_cases h1:x < y
 ·go_enter Tryz.func25,Tryz.ntmps25
  go_wp2_with (go_at_call 47; refine (hn _ _).mono ?_; rintro e w' ⟨rfl,rfl⟩)
  go_ret
  exact⟨rfl,rfl⟩
 ·by_cases h2:y < x
  ·go_enter Tryz.func25,Tryz.ntmps25
   go_wp2_with (go_at_call 47; refine (hn _ _).mono ?_; rintro e w' ⟨rfl,rfl⟩)
   go_ret
   exact⟨rfl,rfl⟩
  ·go_enter Tryz.func25,Tryz.ntmps25
   go_wp2_with (go_at_call 47; refine (hn _ _).mono ?_; rintro e w' ⟨rfl,rfl⟩)
   go_ret
   exact⟨rfl,rfl⟩
def cmpF (x y:Int × Int):Int:=if (if x.1 < y.1 then -1 else if y.1 < x.1 then 1 else 0:Int)=0 then (if x.2 < y.2 then -1 else if y.2 < x.2 then 1 else 0) else (if x.1 < y.1 then -1 else if y.1 < x.1 then 1 else 0)
set_option maxHeartbeats 2000000 in
theorem closure43 (x1 x2 y1 y2:Int) (W:World):Calls Tryz.prog 23 #[.agg #[.int .i64 x1,.int .i64 x2],.agg #[.int .i64 y1,.int .i64 y2]] W fun e w'=>e=.returned (.int .i64 (cmpF (x1,x2) (y1,y2)))∧∃ q os',w'=grow (W.drewN q) os':=by
 have hc:=compare45
 have ho:=or44
 unfold cmpF
 simp only
 have hc1:=fun W'=>hc x1 y1 W'
 have hc2:=fun W'=>hc x2 y2 W'
 generalize (if x1 < y1 then -1 else if y1 < x1 then 1 else 0:Int)=r1 at hc1 ⊢
 generalize (if x2 < y2 then -1 else if y2 < x2 then 1 else 0:Int)=r2 at hc2 ⊢
 have ho':=fun g W'=>ho r1 r2 g W'
 generalize (if r1=0 then r2 else r1)=rr at ho' ⊢
 go_enter Tryz.func23,Tryz.ntmps23
 go_wp2_with fail
 have c1:((W.alloc (Obj.cells #[Value.int IntKind.i64 x1,Value.int IntKind.i64 x2] 33)).alloc (Obj.cells #[Value.int IntKind.i64 y1,Value.int IntKind.i64 y2] 33)).cell? ⟨W.heap.size,0,none⟩=some (.int .i64 x1):=by
  rw[World.cell?_alloc_past _ _ _ (by simp),World.cell?_alloc_at _ _ _ _ rfl]; rfl
 have c2:((W.alloc (Obj.cells #[Value.int IntKind.i64 x1,Value.int IntKind.i64 x2] 33)).alloc (Obj.cells #[Value.int IntKind.i64 y1,Value.int IntKind.i64 y2] 33)).cell? ⟨W.heap.size,1,none⟩=some (.int .i64 x2):=by
  rw[World.cell?_alloc_past _ _ _ (by simp),World.cell?_alloc_at _ _ _ _ rfl]; rfl
 have c3:((W.alloc (Obj.cells #[Value.int IntKind.i64 x1,Value.int IntKind.i64 x2] 33)).alloc (Obj.cells #[Value.int IntKind.i64 y1,Value.int IntKind.i64 y2] 33)).cell? ⟨W.heap.size+1,0,none⟩=some (.int .i64 y1):=by
  rw[World.cell?_alloc_at _ _ _ _ (by simp)]; rfl
 have c4:((W.alloc (Obj.cells #[Value.int IntKind.i64 x1,Value.int IntKind.i64 x2] 33)).alloc (Obj.cells #[Value.int IntKind.i64 y1,Value.int IntKind.i64 y2] 33)).cell? ⟨W.heap.size+1,1,none⟩=some (.int .i64 y2):=by
  rw[World.cell?_alloc_at _ _ _ _ (by simp)]; rfl
 have hg:(W.alloc (Obj.cells #[Value.int IntKind.i64 x1,Value.int IntKind.i64 x2] 33)).alloc (Obj.cells #[Value.int IntKind.i64 y1,Value.int IntKind.i64 y2] 33)=grow W #[Obj.cells #[Value.int IntKind.i64 x1,Value.int IntKind.i64 x2] 33,Obj.cells #[Value.int IntKind.i64 y1,Value.int IntKind.i64 y2] 33]:=by
  rw[alloc_eq_grow,alloc_eq_grow,grow_grow]; rfl
 generalize (W.alloc (Obj.cells #[Value.int IntKind.i64 x1,Value.int IntKind.i64 x2] 33)).alloc (Obj.cells #[Value.int IntKind.i64 y1,Value.int IntKind.i64 y2] 33)=W2 at c1 c2 c3 c4 hg ⊢
 generalize W.heap.size+1=q at c3 c4 ⊢
 generalize W.heap.size=p at c1 c2 ⊢
 have A:Aside (W2=grow W #[Obj.cells #[Value.int IntKind.i64 x1,Value.int IntKind.i64 x2] 33,Obj.cells #[Value.int IntKind.i64 y1,Value.int IntKind.i64 y2] 33]):=hg
 have k0:(W2.alloc (Obj.cells #[.int .i64 r1,.int .i64 r2] 3)).drew.cell? ⟨W2.heap.size,0,none⟩=some (.int .i64 r1):=by
  show (W2.alloc (Obj.cells #[.int .i64 r1,.int .i64 r2] 3)).cell? _=_
  rw[World.cell?_alloc_at _ _ _ _ rfl]; rfl
 have k1:(W2.alloc (Obj.cells #[.int .i64 r1,.int .i64 r2] 3)).drew.cell? ⟨W2.heap.size,1,none⟩=some (.int .i64 r2):=by
  show (W2.alloc (Obj.cells #[.int .i64 r1,.int .i64 r2] 3)).cell? _=_
  rw[World.cell?_alloc_at _ _ _ _ rfl]; rfl
 have ho1:=ho' W2.heap.size _ k0 k1
 clear hg hc ho k0 k1 ho'
 go_region_held (fun w'=>w'.cell? ⟨p,0,none⟩=some (.int .i64 x1)∧w'.cell? ⟨p,1,none⟩=some (.int .i64 x2)∧w'.cell? ⟨q,0,none⟩=some (.int .i64 y1)∧w'.cell? ⟨q,1,none⟩=some (.int .i64 y2)) (go_keep)
  (first | (go_at_call_of 25 (Value.int .i64 x1); refine (hc1 _).mono ?_; rintro e w' ⟨rfl,rfl⟩) | (go_at_call_of 25 (Value.int .i64 x2); refine (hc2 _).mono ?_; rintro e w' ⟨rfl,rfl⟩) | (go_at_call 24; refine ho1.mono ?_; rintro e w' ⟨rfl,rfl⟩))
 all_goals go_wp2
 all_goals go_ret
 exact⟨rfl,1,_,by rw[alloc_eq_grow,A,grow_grow]; rfl⟩
end Go.Proofs.YtgghmmjoplddbaaGreatDoor
namespace Go.Proofs.YtgghmmjoplddbaaGreatDoor
open Go Go.Shelf Go.RowKit Go.Proofs
set_option maxRecDepth 100000
def lays42_ren:Go.Shelf.Ren:=⟨fun | 6=>22 | 14=>45 | 15=>46 | 20=>70 | 21=>71 | 22=>72 | 23=>73 | 24=>74 | 25=>75 | 26=>76 | 27=>77 | 28=>78 | 29=>79 | 46=>98 | 47=>99 | 48=>100 | 49=>101 | 50=>102 | 57=>121 | n=>n,fun | 22=>28 | 24=>33 | 25=>74 | 39=>105 | 45=>150 | 46=>151 | 50=>155 | 53=>158 | 55=>23 | 66=>178 | 70=>182 | 76=>198 | 77=>199 | n=>n,fun | n=>n⟩
theorem lays42:Go.Proofs.SlLaysF0.n6 Tryz.prog lays42_ren:={
 mixed:=by kernel_rfl,
 f6:=by first | exact Tryz.func22.trans (congrArg some (by kernel_rfl)) | exact⟨Tryz.f22.name,by kernel_rfl,Tryz.func22.trans (congrArg some (by kernel_rfl))⟩,
 f14:=by first | exact Tryz.func45.trans (congrArg some (by kernel_rfl)) | exact⟨Tryz.f45.name,by kernel_rfl,Tryz.func45.trans (congrArg some (by kernel_rfl))⟩,
 f15:=by first | exact Tryz.func46.trans (congrArg some (by kernel_rfl)) | exact⟨Tryz.f46.name,by kernel_rfl,Tryz.func46.trans (congrArg some (by kernel_rfl))⟩,
 f20:=by first | exact Tryz.func70.trans (congrArg some (by kernel_rfl)) | exact⟨Tryz.f70.name,by kernel_rfl,Tryz.func70.trans (congrArg some (by kernel_rfl))⟩,
 f21:=by first | exact Tryz.func71.trans (congrArg some (by kernel_rfl)) | exact⟨Tryz.f71.name,by kernel_rfl,Tryz.func71.trans (congrArg some (by kernel_rfl))⟩,
 f22:=by first | exact Tryz.func72.trans (congrArg some (by kernel_rfl)) | exact⟨Tryz.f72.name,by kernel_rfl,Tryz.func72.trans (congrArg some (by kernel_rfl))⟩,
 f23:=by first | exact Tryz.func73.trans (congrArg some (by kernel_rfl)) | exact⟨Tryz.f73.name,by kernel_rfl,Tryz.func73.trans (congrArg some (by kernel_rfl))⟩,
 f24:=by first | exact Tryz.func74.trans (congrArg some (by kernel_rfl)) | exact⟨Tryz.f74.name,by kernel_rfl,Tryz.func74.trans (congrArg some (by kernel_rfl))⟩,
 f25:=by first | exact Tryz.func75.trans (congrArg some (by kernel_rfl)) | exact⟨Tryz.f75.name,by kernel_rfl,Tryz.func75.trans (congrArg some (by kernel_rfl))⟩,
 f26:=by first | exact Tryz.func76.trans (congrArg some (by kernel_rfl)) | exact⟨Tryz.f76.name,by kernel_rfl,Tryz.func76.trans (congrArg some (by kernel_rfl))⟩,
 f27:=by first | exact Tryz.func77.trans (congrArg some (by kernel_rfl)) | exact⟨Tryz.f77.name,by kernel_rfl,Tryz.func77.trans (congrArg some (by kernel_rfl))⟩,
 f28:=by first | exact Tryz.func78.trans (congrArg some (by kernel_rfl)) | exact⟨Tryz.f78.name,by kernel_rfl,Tryz.func78.trans (congrArg some (by kernel_rfl))⟩,
 f29:=by first | exact Tryz.func79.trans (congrArg some (by kernel_rfl)) | exact⟨Tryz.f79.name,by kernel_rfl,Tryz.func79.trans (congrArg some (by kernel_rfl))⟩,
 f46:=by first | exact Tryz.func98.trans (congrArg some (by kernel_rfl)) | exact⟨Tryz.f98.name,by kernel_rfl,Tryz.func98.trans (congrArg some (by kernel_rfl))⟩,
 f47:=by first | exact Tryz.func99.trans (congrArg some (by kernel_rfl)) | exact⟨Tryz.f99.name,by kernel_rfl,Tryz.func99.trans (congrArg some (by kernel_rfl))⟩,
 f48:=by first | exact Tryz.func100.trans (congrArg some (by kernel_rfl)) | exact⟨Tryz.f100.name,by kernel_rfl,Tryz.func100.trans (congrArg some (by kernel_rfl))⟩,
 f49:=by first | exact Tryz.func101.trans (congrArg some (by kernel_rfl)) | exact⟨Tryz.f101.name,by kernel_rfl,Tryz.func101.trans (congrArg some (by kernel_rfl))⟩,
 f50:=by first | exact Tryz.func102.trans (congrArg some (by kernel_rfl)) | exact⟨Tryz.f102.name,by kernel_rfl,Tryz.func102.trans (congrArg some (by kernel_rfl))⟩,
 f57:=by first | exact Tryz.func121.trans (congrArg some (by kernel_rfl)) | exact⟨Tryz.f121.name,by kernel_rfl,Tryz.func121.trans (congrArg some (by kernel_rfl))⟩,
 t0:=Tryz.underlying0,
 a0:=Tryz.isAgg0,
 z0:=Tryz.sizeOf0,
 v0:=Tryz.zeroValue0,
 t3:=Tryz.underlying3,
 a3:=Tryz.isAgg3,
 z3:=Tryz.sizeOf3,
 v3:=Tryz.zeroValue3,
 t4:=Tryz.underlying4,
 a4:=Tryz.isAgg4,
 z4:=Tryz.sizeOf4,
 v4:=Tryz.zeroValue4,
 t5:=Tryz.underlying5,
 a5:=Tryz.isAgg5,
 z5:=Tryz.sizeOf5,
 v5:=Tryz.zeroValue5,
 t9:=Tryz.underlying9,
 a9:=Tryz.isAgg9,
 z9:=Tryz.sizeOf9,
 v9:=Tryz.zeroValue9,
 t22:=Tryz.underlying28,
 a22:=Tryz.isAgg28,
 z22:=Tryz.sizeOf28,
 v22:=Tryz.zeroValue28,
 t25:=Tryz.underlying74,
 a25:=Tryz.isAgg74,
 z25:=Tryz.sizeOf74,
 v25:=Tryz.zeroValue74,
 t39:=Tryz.underlying105,
 a39:=Tryz.isAgg105,
 z39:=Tryz.sizeOf105,
 v39:=Tryz.zeroValue105,
 t45:=Tryz.underlying150,
 a45:=Tryz.isAgg150,
 z45:=Tryz.sizeOf150,
 v45:=Tryz.zeroValue150,
 t46:=Tryz.underlying151,
 a46:=Tryz.isAgg151,
 z46:=Tryz.sizeOf151,
 v46:=Tryz.zeroValue151,
 t50:=Tryz.underlying155,
 a50:=Tryz.isAgg155,
 z50:=Tryz.sizeOf155,
 v50:=Tryz.zeroValue155,
 t53:=Tryz.underlying158,
 a53:=Tryz.isAgg158,
 z53:=Tryz.sizeOf158,
 v53:=Tryz.zeroValue158,
 t55:=Tryz.underlying23,
 a55:=Tryz.isAgg23,
 z55:=Tryz.sizeOf23,
 v55:=Tryz.zeroValue23,
 t66:=Tryz.underlying178,
 a66:=Tryz.isAgg178,
 z66:=Tryz.sizeOf178,
 v66:=Tryz.zeroValue178,
 t70:=Tryz.underlying182,
 a70:=Tryz.isAgg182,
 z70:=Tryz.sizeOf182,
 v70:=Tryz.zeroValue182,
 t76:=Tryz.underlying198,
 a76:=Tryz.isAgg198,
 z76:=Tryz.sizeOf198,
 v76:=Tryz.zeroValue198,
 t77:=Tryz.underlying199,
 a77:=Tryz.isAgg199,
 z77:=Tryz.sizeOf199,
 v77:=Tryz.zeroValue199 }
open Go.Sx Go.Isa Go.Lint Go.Sort
set_option linter.unusedVariables false
def encF (x:Int × Int):List Value:=[.int .i64 x.1,.int .i64 x.2]
theorem cmpLays43 (blk off size:Nat) (w:World):CmpLays Tryz.prog 23 #[] encF 2 cmpF blk off size w :=
 fun _ _ _ _ x y=>closure43 x.1 x.2 y.1 y.2 _
theorem zj6m (x y:Int × Int):ltOf cmpF x y=decide (x.1 < y.1∨x.1=y.1∧x.2 < y.2):=by
 unfold ltOf cmpF
 rw[decide_eq_decide]
 by_cases h1:x.1 < y.1
 ·simp[h1]
 ·by_cases h2:y.1 < x.1
  ·simp[h1,h2]; omega
  ·have:x.1=y.1:=by omega
   by_cases h3:x.2 < y.2
   ·simp[h1,h2,h3]; omega
   ·by_cases h4:y.2 < x.2
    ·simp[h1,h2,h3,h4]
    ·simp[h1,h2,h3,h4]
theorem swo_cmpF:SWO (ltOf cmpF) where
 irrefl x:=by rw[zj6m]; simp
 trans x y z h1 h2:=by rw[zj6m] at *; simp at *; omega
 ntrans x y z h1 h2:=by rw[zj6m] at *; simp at *; omega
def leF2 (x y:Int × Int):Bool:=!ltOf cmpF y x
def srt (l:List (Int × Int)):List (Int × Int):=l.mergeSort leF2
theorem flat_fs (l:List (Int × Int)):Go.Sort.flatK encF 2 l.toArray=(fsV l).toArray:=by
 have e:∀ (l:List (Int × Int)) (t:Nat),t < l.length*2→(fsV l)[t]? = some ((encF (l.toArray)[t / 2]!)[t % 2]!):=by
  intro l
  induction l with
  | nil=>intro t h; simp at h
  | cons x r ih =>
   intro t h
   have hx:fsV (x :: r)=.int .i64 x.1 :: .int .i64 x.2 :: fsV r:=rfl
   rw[hx]
   match t with
   | 0=>rfl
   | 1=>rfl
   | t+2 =>
    have:=ih t (by simp at h; omega)
    have e1:(t+2) / 2=t / 2+1:=by omega
    have e2:(t+2) % 2=t % 2:=by omega
    rw[e1,e2]
    simpa using this
 apply Array.ext_getElem?
 intro t
 by_cases h:t < l.length*2
 ·have:=e l t h
  have e2:(fsV l).toArray[t]? = (fsV l)[t]? := by simp
  rw[e2,this]
  unfold Go.Sort.flatK
  rw[Array.getElem?_map,Array.getElem?_range]
  simp[h]
 ·have e2:(fsV l).toArray[t]? = (fsV l)[t]? := by simp
  rw[e2,Array.getElem?_eq_none (by simp; omega),List.getElem?_eq_none (by rw[zj4n]; omega)]
theorem heap_put (w:World) (blk off:Nat) (F:Array Value) (j:Nat):(putRow id w blk off F).heap[j]? = if blk=j then (w.heap[j]?).map (onCells (putCells id off F)) else w.heap[j]? := by
 simp[putRow,mapBlock,Array.getElem?_modify]
theorem zj7t (off:Nat) (F:Array Value) (c:Array Value):(putCells id off F c).size=c.size:=by simp[putCells]
theorem zj6n (off:Nat) (F:Array Value) (c:Array Value) (h:off+F.size≤c.size):((putCells id off F c).toList.drop off).take F.size=F.toList:=by
 apply List.ext_getElem?
 intro j
 rw[List.getElem?_take]
 by_cases hj:j < F.size
 ·rw[if_pos hj,List.getElem?_drop,Array.getElem?_toList,Array.getElem?_toList]
  simp only[putCells,Array.getElem?_mapIdx]
  rw[Array.getElem?_eq_getElem (by omega),Array.getElem?_eq_getElem hj,Option.map_some,if_pos (by omega)]
  simp[getElem!_pos F j hj]
 ·rw[if_neg hj,Array.getElem?_toList,Array.getElem?_eq_none (by omega)]
theorem sort42 {E:Env} {H:List SO} {W:World} {i ver:Nat} {A:Option Addr} {c:Nat} {fs:List (Int × Int)} (hW:HeapOk E H W) (hi:nth H i=some (.own 33 ver 2 A fs.length c (fsV fs))) (hn:fs.length≤1000000000) :
  CallsV Tryz.prog 22 [.slice A fs.length c,.func (.func 23) #[] #[]] W fun v W'=>v=.tuple #[]∧HeapOk E (setn H i (.own 33 ver 2 A fs.length c (fsV (srt fs)))) W':=by
 have hlen:(srt fs).length=fs.length:=List.length_mergeSort _
 have hext:HExt H (setn H i (.own 33 ver 2 A fs.length c (fsV (srt fs)))):=HExt.setOwn hi (Nat.le_refl _) fun _=>⟨rfl,rfl,rfl⟩
 have he0:=hW.ents i _ hi
 obtain⟨hl,⟨h1,h2,h3⟩ | ⟨g,b,cur,rfl,hg,h1,h2,h3,h4⟩⟩:=he0
 ·have h0:fs=[]:=List.length_eq_zero_iff.1 h1
  subst h0
  have h:=AnyF.slices_SortFunc_none lays42 A c (.func (.func 23) #[] #[]) W
  change Calls Tryz.prog 22 _ _ _ at h
  refine Calls.mono h ?_
  rintro e w' ⟨rfl,rfl⟩
  refine⟨rfl,hW.set hi hext (fun g hg=>.inl hg) (fun _ _ _=>rfl) (Nat.le_refl _) rfl rfl rfl ?_⟩
  have h9:srt []=[]:=by simp[srt]
  rw[h9]
  exact EntryOk.mono (by rw[h9] at hext; exact hext) (fun _ _=>rfl) (hW.ents i _ hi)
 ·have hgl:g < W.heap.size:=by
   rcases Nat.lt_or_ge g W.heap.size with h | h
   ·exact h
   ·simp only at hg
    rw[Array.getElem?_eq_none h] at hg
    cases hg
  have hcell:∀ j v,(fsV fs)[j]? = some v→cur[b+j]? = some v:=by
   intro j v hj
   rw[← h4,List.getElem?_take] at hj
   split at hj
   ·rw[List.getElem?_drop] at hj
    simpa using hj
   ·cases hj
  have hH:HoldsK encF 2 W g b fs.toArray:=by
   unfold HoldsK
   rw[flat_fs]
   intro j hj
   have hj':j < (fsV fs).length:=by simpa using hj
   have hv:(fsV fs)[j]? = some (fsV fs).toArray[j]! := by
    rw[getElem!_pos (fsV fs).toArray j hj]
    simp
   refine⟨?_,?_⟩
   ·simp only[World.cell?]
    simp only at hg
    rw[hg]
    simpa using hcell j _ hv
   ·simp only[World.frozen?]
    simp only at hg
    rw[hg]
    simp
  have h:=AnyQ.slices_SortFunc_total lays42 2 (fun _=>rfl) (fun _=>rfl) encF (fun _=>rfl) (fun x v hv=>by simp[encF] at hv; rcases hv with rfl | rfl <;> rfl) cmpF swo_cmpF 23 #[] g b c fs.toArray W (enters_of Tryz.func23 (by kernel_rfl) rfl) (cmpLays43 g b _ W) hH hgl (by simp; omega) (fun x y h1 h2=>by
   rw[zj6m] at h1 h2
   simp at h1 h2
   exact Prod.ext (by omega) (by omega))
  change Calls Tryz.prog 22 _ _ _ at h
  refine Calls.mono (args:=#[.slice (some ⟨g,b,none⟩) fs.length c,.func (.func 23) #[] #[]]) (by simpa using h) ?_
  rintro e w' ⟨rfl,n,os,rfl⟩
  have hs:(List.mergeSort fs.toArray.toList fun x y=>!ltOf cmpF y x)=srt fs:=rfl
  rw[hs]
  have hheap:∀ j,j < W.heap.size→(sortWorldK encF 2 W g b n (srt fs).toArray os).heap[j]? = if g=j then (W.heap[j]?).map (onCells (putCells id b (fsV (srt fs)).toArray)) else W.heap[j]? := by
   intro j hj
   unfold sortWorldK putRowK
   rw[flat_fs]
   show ((putRow id (Go.Sort.ahead W n) g b (fsV (srt fs)).toArray).heap++os)[j]? = _
   rw[Array.getElem?_append_left (by rw[size_putRow]; exact hj),heap_put]
   rfl
  have hsz:W.heap.size≤(sortWorldK encF 2 W g b n (srt fs).toArray os).heap.size:=size_sortWorldK_c _ _ _ _ _ _ _ _
  refine⟨rfl,hW.set hi hext (fun g' hg'=>.inl hg') (fun j hj hlt=>?_) hsz rfl rfl rfl ?_⟩
  ·rw[hheap j hlt,if_neg (fun e=>hj (by rw[← e]; rfl))]
  ·refine⟨by rw[zj4n,hlen],.inr ⟨g,b,putCells id b (fsV (srt fs)).toArray cur,rfl,?_,h1,h2,by rw[zj7t]; exact h3,?_⟩⟩
   ·show (sortWorldK encF 2 W g b n (srt fs).toArray os).heap[g]? = _
    simp only at hg
    rw[hheap g hgl,if_pos rfl,hg]
    rfl
   ·have:=zj6n b (fsV (srt fs)).toArray cur (by simp only[List.size_toArray]; rw[zj4n,hlen,← h3]; omega)
    simp only[List.size_toArray] at this
    rw[zj4n,hlen] at this
    exact this
end Go.Proofs.YtgghmmjoplddbaaGreatDoor
namespace Go.Proofs.YtgghmmjoplddbaaGreatDoor
open Go Go.Sx Go.Isa Go.Lint
open Nat (reduceAdd reduceLT)
set_option maxRecDepth 100000
def insJ (j:Nat):Bool:=decide (j=1)
def h7 (m:Go.Lint.Met) (x:In) (i:Int) (b:Bool):Bool:=match get m (i,b) with
 | some u=>legalB x && decide (readsB x &&& ~~~ u ≠ 0#8)
 | none=>false
def e7 (m:Go.Lint.Met) (x:In) (i:Int):Nat→List (Int × Int)
 | 0=>[]
 | j+1=>e7 m x i j++(if h7 m x i (insJ j)=true then [(7,i)] else [])
def rchJ (m:Go.Lint.Met) (i:Int):Nat→Bool
 | 0=>false
 | j+1=>rchJ m i j || (get m (i,insJ j)).isSome
def e78 (m:Go.Lint.Met) (x:In) (i:Int):List (Int × Int):=e7 m x i 2++(if rchJ m i 2=true then [] else [(8,i)])
def ext78 (m:Go.Lint.Met):List In→Nat→List (Int × Int)
 | _,0=>[]
 | l,i+1=>ext78 m l i++(match l[i]? with | some x=>e78 m x i | none=>[])
theorem e7_len (m:Go.Lint.Met) (x:In) (i:Int):∀ j,(e7 m x i j).length≤j
 | 0=>Nat.le_refl _
 | j+1=>by
  have:=e7_len m x i j
  simp only[e7,List.length_append]
  split <;> simp <;> omega
theorem e78_len (m:Go.Lint.Met) (x:In) (i:Int):(e78 m x i).length≤3:=by
 have:=e7_len m x i 2
 simp only[e78,List.length_append]
 split <;> simp <;> omega
theorem ext78_len (m:Go.Lint.Met) (l:List In):∀ i,(ext78 m l i).length≤3*i
 | 0=>Nat.le_refl _
 | i+1=>by
  have:=ext78_len m l i
  simp only[ext78,List.length_append]
  split
  ·rename_i x _; have:=e78_len m x i; omega
  ·simp; omega
theorem _root_.Go.Sx.Rep.push0 {E:Env} {s:SS} {a:Act} {W:World} (rep:Rep E s a W) (t:TypeId) (sz:Nat):Rep E { F:=s.F,H:=s.H++[.own t 0 sz none 0 0 []] } a W:=by
 have hx:=HExt.push s.H (.own t 0 sz none 0 0 [])
 have hh:HeapOk E (s.H++[.own t 0 sz none 0 0 []]) W:=rep.heap.pushG (row:=none) (Nat.le_refl _) rfl rfl rfl (fun _ _ _=>rfl) (fun _ e=>by cases e) (fun g hg=>by simp[SO.fp] at hg) ⟨by simp,.inl ⟨rfl,rfl,fun a h=>by cases h⟩⟩
 exact rep.ext hx hh
theorem isl_look {H:List SO} {x y:SV} (hi:nth H 2=some (.own 33 0 2 none 0 0 [])):∀ vs,IsL H [x,y,.val (.slice none 0 0)] vs→IsL H [x,y,.own 2 0] vs:=by
 intro vs h
 simp only[IsL] at h ⊢
 obtain⟨v1,r1,i1,⟨v2,r2,i2,⟨v3,r3,i3,e3,e4⟩,e5⟩,e6⟩:=h
 refine⟨v1,r1,i1,⟨v2,r2,i2,⟨v3,r3,?_,e3,e4⟩,e5⟩,e6⟩
 simp only[Is] at i3 ⊢
 exact⟨_,_,_,_,_,_,_,hi,Nat.le_refl _,⟨_,_,_,i3⟩,fun _=>i3⟩
structure LW where
 i:Nat
 A:Option Addr
 c:Nat
structure LJ where
 j:Nat
 A:Option Addr
 c:Nat
theorem look22_big (n:Nat) (B:Option Addr) (bc:Nat) (w:World) (hn:1024 < n):CallsV Tryz.prog 7 [.slice B n bc] w fun v w'=>v=.tuple #[.slice none 0 0,.int .i64 2]∧Fresh w w':=by
 refine zj03 (keep:=K7) (nt:=81) (svs:=[.val (.slice B n bc)]) Tryz.func7 x7 n7 (by simp) (by simp[IsL,Is]) fun R hR=>?_
 (refine Y_go 600 ?_; dsimp only[go_sem,reduceAdd,Nat.reduceBEq])
 refine⟨fun h=>?_,fun h=>?_⟩
 ·exact zj01 (vs:=[.slice none 0 0,.int .i64 2]) r7 rfl rfl fun W' hW'=>hR _ _ ⟨rfl,hW'.fresh'⟩
 ·have:=of_decide_eq_false h; omega
theorem look22 (l:List In) (B:Option Addr) (bc:Nat) (w:World) (hl:l.length≤1024) (hB:RowAt w B (cellsI l)) (hG:ShAt w) :
  CallsV Tryz.prog 7 [.slice B l.length bc] w fun v w'=>∃ (m:Go.Lint.Met) (fs:List (Int × Int)) (A:Option Addr) (c:Nat),Fin l m fs∧v=.tuple #[.slice A (ddp (srt (fs++ext78 m l l.length))).length c,.int .i64 0] ∧
   World.ownsB w' w.heap.size 33 2 (.slice A (ddp (srt (fs++ext78 m l l.length))).length c) (ddp (srt (fs++ext78 m l l.length))).length (fsV (ddp (srt (fs++ext78 m l l.length))))∧Fresh w w':=by
 refine zj03 (keep:=K7) (nt:=81) (svs:=[.val (.slice B l.length bc)]) Tryz.func7 x7 n7 (by simp) (by simp[IsL,Is]) fun R hR=>?_
 (refine Y_go 600 ?_; dsimp only[go_sem,reduceAdd,Nat.reduceBEq])
 refine⟨fun h=>?_,fun h=>?_⟩
 ·have:=of_decide_eq_true h; omega
 intro gm gl
 have hB0:RowE ⟨w,w.heap.size,[],81,[]⟩ B (cellsI l):=hB.toE (by simp) 81 []
 have hG0:RowE ⟨w,w.heap.size,[],81,[]⟩ (some ⟨0,0,none⟩) shL:=RowAt.toE hG (by simp) 81 []
 refine G.le (E':=⟨w,w.heap.size,[],81,[]⟩) (s':={ F:=[(19,.ptr 1 0),(0,.val (.slice B l.length bc)),(4,.ptr 1 0)],H:=lkE gm gl B l.length bc [] 0 none 0 0 [] }) rfl (fun a W rep=>?_) ?_
 ·have rep1:=(rep.push0 33 2).cellsTo 1 (l':=[.val (.slice B l.length bc),.mp 0,.own 2 0]) rfl (isl_look rfl)
  exact rep1.le (by (simp only[go_sem,lk,Nat.reduceBEq,reduceLT,reduceAdd] <;> try simp)) (by (simp only[go_sem,lk,Nat.reduceBEq,reduceLT,reduceAdd] <;> try simp); exact rfl)
 refine zj0b (vs:=[.pointer (some ⟨gl,0,none⟩)]) rfl (R:=fun W v W'=>v=.tuple #[]∧∃ (m:Go.Lint.Met) (fs:List (Int × Int)) (Af':Option Addr) (cf':Nat),(Fin l m fs∧Rg m∧fs.length≤50000000)∧HeapOk ⟨w,w.heap.size,[],81,[]⟩ (lkE gm gl B l.length bc m 1 Af' fs.length cf' (fsV fs)) W')
  (fun W hW=>walk39 gm gl B bc l none 0 W hl hB0 hG0 hW) fun W v W' hW ⟨hv,m,fs,A0,c0,⟨hfin,hrg,hfl⟩,hW'⟩=>?_
 subst hv
 refine⟨.tup [],_,by simp[Is,IsL],lkE_ext (by omega),hW',?_⟩
 refine zj0z ?_
 (refine Y_go 600 ?_; dsimp only[go_sem,lkE,Nat.reduceBEq])
 refine zj08 (α:=LW) (fun x=>x.i≤l.length) (fun _=>⟨w,w.heap.size,[],81,[]⟩) (fun x=>{ F:=[(4,.ptr 1 0),(21,.val (.slice B l.length bc)),(22,.val (.int .i64 l.length)),(23,.val (.int .i64 (x.i:Int)))],H:=lkE gm gl B l.length bc m 0 x.A (fs++ext78 m l x.i).length x.c (fsV (fs++ext78 m l x.i)) }) (fun x=>l.length - x.i) (fun _=>rfl) ?start ?round
 case start =>
  intro a W rep
  refine⟨⟨0,A0,c0⟩,by simp,rep.res.le (by (simp only[go_sem,lk,Nat.reduceBEq,reduceLT,reduceAdd] <;> try simp)) ?_⟩
  simp only[lkE]
  (simp only[go_sem,lk,Nat.reduceBEq,reduceLT,reduceAdd] <;> try simp)
  simp[ext78]
 case round =>
  rintro ⟨i,A,c⟩ hi I again
  have hi:i≤l.length:=hi
  have hel:=ext78_len m l i
  have hnl:(fs++ext78 m l i).length≤60000000:=by rw[List.length_append]; omega
  (refine Y_go 10 ?_; dsimp only[go_sem,lkE,Nat.reduceBEq,Y_0])
  refine⟨fun hlt=>?_,fun hge=>?_⟩
  ·have hil:i < l.length:=by have:=of_decide_eq_true hlt; omega
   have hx:l[i]? = some l[i]:=List.getElem?_eq_getElem hil
   have cl:∀ k v,k < 5→(l[i]).cells[k]? = some v→CellAt ⟨w,w.heap.size,[],81,[]⟩ B (i*5+k) v:=fun k v hk hv=>hB0.cell (by rw[zj0y l hil hk]; exact hv)
   have hBs:B.isSome=true:=hB0.isSome (j:=i*5) (by rw[zj0o]; omega)
   (refine Y_go 600 ?_; dsimp only[go_sem,Nat.reduceBEq,reduceAdd,Nat.reduceMul])
   refine⟨⟨by omega,by omega,hBs⟩,_,cl 0 _ (by omega) rfl,_,cl 1 _ (by omega) rfl,_,cl 2 _ (by omega) rfl,_,cl 3 _ (by omega) rfl,_,cl 4 _ (by omega) rfl,fun gx=>?_⟩
   intro gb
   generalize hxx:l[i]=x at *
   refine zj08 (α:=LJ) (fun y=>y.j≤2) (fun _=>⟨w,w.heap.size,[],81,[]⟩) (fun y=>{ F:=[(4,.ptr 1 0),(5,.val (.int .i64 (i:Int))),(6,.ptr 3 0),(7,bsv (rchJ m (i:Int) y.j)),(21,.val (.slice B l.length bc)),(22,.val (.int .i64 l.length)),(23,.val (.int .i64 (i:Int))),(28,.slc 4 0 2 2),(29,.val (.int .i64 2)),(30,.val (.int .i64 (y.j:Int)))],H:=lkE gm gl B l.length bc m 0 y.A (fs++ext78 m l i++e7 m x i y.j).length y.c (fsV (fs++ext78 m l i++e7 m x i y.j))++[.cells gx 47 (In.sv x),.row gb 4 [.bool false,.bool true]] }) (fun y=>2 - y.j) (fun _=>rfl) ?start2 ?round2
   case start2 =>
    intro a W rep
    refine⟨⟨0,A,c⟩,by simp,(rep.torow 4 rfl rfl).le (by simp only[rchJ,bsv]; (simp only[go_sem,lk,Nat.reduceBEq,reduceLT,reduceAdd] <;> try simp)) ?_⟩
    simp only[lkE,In.sv]
    (simp only[go_sem,lk,Nat.reduceBEq,reduceLT,reduceAdd] <;> try simp)
    simp[e7]
   case round2 =>
    rintro ⟨j,A,c⟩ hj I2 again2
    have hj:j≤2:=hj
    have hel2:=e7_len m x i j
    have hnl2:(fs++ext78 m l i++e7 m x i j).length≤60000010:=by rw[List.length_append]; omega
    have hfit:fitV [.int .i64,.bool] (spotV ((i:Int),insJ j))=true∧∀ p ∈ metV m,fitV [.int .i64,.bool] p.1=true:=⟨zj5g (by simp) (by simp only; omega),fit_met hrg⟩
    have hget:=zj5f m ((i:Int),insJ j)
    have hrj:rchJ m i (j+1)=(rchJ m i j || (get m (i,insJ j)).isSome):=rfl
    have h77:e7 m x i (j+1)=e7 m x i j++(if h7 m x i (insJ j)=true then [(7,(i:Int))] else []):=rfl
    have hb:j < 2→[Value.bool false,Value.bool true][0+(j:Int).toNat*1]? = some (.bool (insJ j)):=by
     intro h
     have:j=0∨j=1:=by omega
     rcases this with rfl | rfl <;> rfl
    cases hd:rchJ m (i:Int) j with
    | false =>
     simp only[bsv]
     (refine Y_go 10 ?_; dsimp only[go_sem,lkE,Nat.reduceBEq,Y_0])
     refine⟨fun hlt2=>?_,fun hge2=>?_⟩
     ·have hlt2:j < 2:=by have:=of_decide_eq_true hlt2; omega
      cases hg:get m ((i:Int),insJ j) with
      | none =>
       rw[hg] at hget hrj
       have hE:e7 m x i (j+1)=e7 m x i j:=by
        rw[h77]; simp[h7,hg]
       have hr1:rchJ m (i:Int) (j+1)=false:=by rw[hrj,hd]; rfl
       (refine Y_go 22 ?_; dsimp only[go_sem,Nat.reduceBEq,reduceAdd,Y_0])
       refine⟨⟨by omega,by omega⟩,insJ j,hb hlt2,hfit,_,hget,.val (.int .u8 0),rfl,?_⟩
       refine G.le (E':=⟨w,w.heap.size,[],81,[]⟩) (s':={ F:=[(44,.bf),(43,.val (.int .u8 0)),(4,.ptr 1 0),(5,.val (.int .i64 (i:Int))),(6,.ptr 3 0),(7,.bf),(21,.val (.slice B l.length bc)),(22,.val (.int .i64 l.length)),(23,.val (.int .i64 (i:Int))),(28,.slc 4 0 2 2),(29,.val (.int .i64 2)),(30,.val (.int .i64 (j:Int)))],H:=lkE gm gl B l.length bc m 0 A (fs++ext78 m l i++e7 m x i j).length c (fsV (fs++ext78 m l i++e7 m x i j))++[.cells gx 47 (In.sv x),.row gb 4 [.bool false,.bool true]] }) rfl (fun a W rep=>?_) ?_
       ·exact (zj5a 44 rep rfl).le (by simp only[bsv,Option.map,Option.isSome]; (simp only[go_sem,lk,Nat.reduceBEq,reduceLT,reduceAdd] <;> try simp)) (by simp only[lkE,In.sv]; (simp only[go_sem,lk,Nat.reduceBEq,reduceLT,reduceAdd] <;> try simp))
       (refine Y_go 600 ?_; dsimp only[go_sem,lkE,In.sv,Nat.reduceBEq])
       refine⟨((j+1:Nat):Int),ArOk.to (by omega) (by omega) (by omega),zj02 fun a W rep=>again2 ⟨j+1,A,c⟩ (by show j+1≤2; omega) (by show 2 - (j+1) < 2 - j; omega) a W (rep.res.le (by simp only[hr1,bsv]; (simp only[go_sem,lk,Nat.reduceBEq,reduceLT,reduceAdd] <;> try simp)) ?_)⟩
       simp only[lkE,In.sv]
       rw[hE]
       (simp only[go_sem,lk,Nat.reduceBEq,reduceLT,reduceAdd] <;> try simp)
      | some u =>
       rw[hg] at hget hrj
       have hr1:rchJ m (i:Int) (j+1)=true:=by rw[hrj,hd]; rfl
       (refine Y_go 22 ?_; dsimp only[go_sem,Nat.reduceBEq,reduceAdd,Y_0])
       refine⟨⟨by omega,by omega⟩,insJ j,hb hlt2,hfit,_,hget,.val (.int .u8 u.toNat),rfl,?_⟩
       refine G.le (E':=⟨w,w.heap.size,[],81,[]⟩) (s':={ F:=[(44,.bt),(43,.val (.int .u8 u.toNat)),(4,.ptr 1 0),(5,.val (.int .i64 (i:Int))),(6,.ptr 3 0),(7,.bf),(21,.val (.slice B l.length bc)),(22,.val (.int .i64 l.length)),(23,.val (.int .i64 (i:Int))),(28,.slc 4 0 2 2),(29,.val (.int .i64 2)),(30,.val (.int .i64 (j:Int)))],H:=lkE gm gl B l.length bc m 0 A (fs++ext78 m l i++e7 m x i j).length c (fsV (fs++ext78 m l i++e7 m x i j))++[.cells gx 47 (In.sv x),.row gb 4 [.bool false,.bool true]] }) rfl (fun a W rep=>?_) ?_
       ·exact (zj5a 44 rep rfl).le (by simp only[bsv,Option.map,Option.isSome]; (simp only[go_sem,lk,Nat.reduceBEq,reduceLT,reduceAdd] <;> try simp)) (by simp only[lkE,In.sv]; (simp only[go_sem,lk,Nat.reduceBEq,reduceLT,reduceAdd] <;> try simp))
       (refine Y_go 600 ?_; dsimp only[go_sem,lkE,In.sv,Nat.reduceBEq,reduceAdd])
       cases hlg:legalB x with
       | false =>
        have hE:e7 m x i (j+1)=e7 m x i j:=by
         rw[h77]; simp[h7,hg,hlg]
        refine zj00 (vs:=[In.val x]) rfl (fun W hW=>zj19 x W (hG0.at hW)) fun v hv=>⟨.bf,by rw[hv,hlg]; simp[Is],?_⟩
        (refine Y_go 600 ?_; dsimp only[go_sem,Nat.reduceBEq])
        refine⟨((j+1:Nat):Int),ArOk.to (by omega) (by omega) (by omega),zj02 fun a W rep=>again2 ⟨j+1,A,c⟩ (by show j+1≤2; omega) (by show 2 - (j+1) < 2 - j; omega) a W (rep.res.le (by simp only[hr1,bsv]; (simp only[go_sem,lk,Nat.reduceBEq,reduceLT,reduceAdd] <;> try simp)) ?_)⟩
        simp only[lkE,In.sv]
        rw[hE]
        (simp only[go_sem,lk,Nat.reduceBEq,reduceLT,reduceAdd] <;> try simp)
       | true =>
        refine zj00 (vs:=[In.val x]) rfl (fun W hW=>zj19 x W (hG0.at hW)) fun v hv=>⟨.bt,by rw[hv,hlg]; simp[Is],?_⟩
        (refine Y_go 600 ?_; dsimp only[go_sem,Nat.reduceBEq,reduceAdd])
        refine zj00 (vs:=[In.val x]) rfl (fun W hW=>reads40 x hlg W) fun v hv=>⟨.val (.int .u8 (readsB x).toNat),by rw[hv]; simp[Is,u8V],?_⟩
        (refine Y_go 600 ?_; dsimp only[go_sem,Nat.reduceBEq])
        refine⟨_,andn8 _ _,fun hne=>?_,fun heq=>?_⟩
        ·have hh:h7 m x i (insJ j)=true:=by
          simp only[h7,hg,hlg,Bool.true_and,decide_eq_true_eq]
          intro e
          rw[e] at hne
          simp at hne
         have hE:e7 m x i (j+1)=e7 m x i j++[(7,(i:Int))]:=by
          rw[h77,if_pos hh]
         refine zj0h (C:=cxOf Tryz.prog Tryz.f7 K7 T7 R) rfl (gm:=gm) (gl:=gl) (B:=B) (bn:=l.length) (bc:=bc) (m:=m) (k:=0) (A:=A) (n:=(fs++ext78 m l i++e7 m x i j).length) (c:=c) (xs:=fsV (fs++ext78 m l i++e7 m x i j)) (cd:=7) (p:=i) (r:=[.cells gx 47 (In.sv x),.row gb 4 [.bool false,.bool true]]) (by omega) ?_ fun A' c'=>zj0z ?_
         ·rfl
         (refine Y_go 600 ?_; dsimp only[go_sem,reduceAdd,lkE,In.sv,Nat.reduceBEq])
         refine⟨((j+1:Nat):Int),ArOk.to (by omega) (by omega) (by omega),zj02 fun a W rep=>again2 ⟨j+1,A',c'⟩ (by show j+1≤2; omega) (by show 2 - (j+1) < 2 - j; omega) a W (rep.res.le (by simp only[hr1,bsv]; (simp only[go_sem,lk,Nat.reduceBEq,reduceLT,reduceAdd] <;> try simp)) ?_)⟩
         simp only[lkE,In.sv]
         rw[hE]
         (simp only[go_sem,lk,Nat.reduceBEq,reduceLT,reduceAdd] <;> try simp)
         simp only[zj40,List.append_assoc,List.length_append,List.length_cons,List.length_nil]; exact⟨by omega,rfl⟩
        ·have hh:¬ h7 m x i (insJ j)=true:=by
          simp only[h7,hg,hlg,Bool.true_and,decide_eq_true_eq]
          intro e
          have h0:(readsB x &&& ~~~u).toNat=0:=by simpa using heq
          exact e (BitVec.eq_of_toNat_eq (by rw[h0]; rfl))
         have hE:e7 m x i (j+1)=e7 m x i j:=by
          rw[h77,if_neg hh]; simp
         refine⟨((j+1:Nat):Int),ArOk.to (by omega) (by omega) (by omega),zj02 fun a W rep=>again2 ⟨j+1,A,c⟩ (by show j+1≤2; omega) (by show 2 - (j+1) < 2 - j; omega) a W (rep.res.le (by simp only[hr1,bsv]; (simp only[go_sem,lk,Nat.reduceBEq,reduceLT,reduceAdd] <;> try simp)) ?_)⟩
         simp only[lkE,In.sv]
         rw[hE]
         (simp only[go_sem,lk,Nat.reduceBEq,reduceLT,reduceAdd] <;> try simp)
     ·have hj2:j=2:=by have:=of_decide_eq_false hge2; omega
      subst hj2
      (refine Y_go 600 ?_; dsimp only[go_sem,Nat.reduceBEq])
      refine zj0h (C:=cxOf Tryz.prog Tryz.f7 K7 T7 R) rfl (gm:=gm) (gl:=gl) (B:=B) (bn:=l.length) (bc:=bc) (m:=m) (k:=0) (A:=A) (n:=(fs++ext78 m l i++e7 m x i 2).length) (c:=c) (xs:=fsV (fs++ext78 m l i++e7 m x i 2)) (cd:=8) (p:=i) (r:=[.cells gx 47 (In.sv x),.row gb 4 [.bool false,.bool true]]) (by omega) ?_ fun A' c'=>zj0z ?_
      ·rfl
      (refine Y_go 600 ?_; dsimp only[go_sem,reduceAdd,lkE,Nat.reduceBEq])
      have hE:fs++ext78 m l (i+1)=fs++ext78 m l i++e7 m x i 2++[(8,(i:Int))]:=by
       simp only[ext78,hx,e78,hd]
       simp
      refine⟨((i+1:Nat):Int),ArOk.to (by omega) (by omega) (by omega),zj02 fun a W rep=>again ⟨i+1,A',c'⟩ (by show i+1≤_; omega) (by show l.length - (i+1) < l.length - i; omega) a W (rep.res.le (by (simp only[go_sem,lk,Nat.reduceBEq,reduceLT,reduceAdd] <;> try simp)) ?_)⟩
      simp only[lkE]
      rw[hE]
      (simp only[go_sem,lk,Nat.reduceBEq,reduceLT,reduceAdd] <;> try simp)
      simp only[zj40,List.append_assoc,List.length_append,List.length_cons,List.length_nil]; exact⟨by omega,rfl⟩
    | true =>
     simp only[bsv]
     (refine Y_go 10 ?_; dsimp only[go_sem,lkE,Nat.reduceBEq,Y_0])
     refine⟨fun hlt2=>?_,fun hge2=>?_⟩
     ·have hlt2:j < 2:=by have:=of_decide_eq_true hlt2; omega
      cases hg:get m ((i:Int),insJ j) with
      | none =>
       rw[hg] at hget hrj
       have hE:e7 m x i (j+1)=e7 m x i j:=by
        rw[h77]; simp[h7,hg]
       have hr1:rchJ m (i:Int) (j+1)=true:=by rw[hrj,hd]; rfl
       (refine Y_go 22 ?_; dsimp only[go_sem,Nat.reduceBEq,reduceAdd,Y_0])
       refine⟨⟨by omega,by omega⟩,insJ j,hb hlt2,hfit,_,hget,.val (.int .u8 0),rfl,?_⟩
       refine G.le (E':=⟨w,w.heap.size,[],81,[]⟩) (s':={ F:=[(44,.bf),(43,.val (.int .u8 0)),(4,.ptr 1 0),(5,.val (.int .i64 (i:Int))),(6,.ptr 3 0),(7,.bt),(21,.val (.slice B l.length bc)),(22,.val (.int .i64 l.length)),(23,.val (.int .i64 (i:Int))),(28,.slc 4 0 2 2),(29,.val (.int .i64 2)),(30,.val (.int .i64 (j:Int)))],H:=lkE gm gl B l.length bc m 0 A (fs++ext78 m l i++e7 m x i j).length c (fsV (fs++ext78 m l i++e7 m x i j))++[.cells gx 47 (In.sv x),.row gb 4 [.bool false,.bool true]] }) rfl (fun a W rep=>?_) ?_
       ·exact (zj5a 44 rep rfl).le (by simp only[bsv,Option.map,Option.isSome]; (simp only[go_sem,lk,Nat.reduceBEq,reduceLT,reduceAdd] <;> try simp)) (by simp only[lkE,In.sv]; (simp only[go_sem,lk,Nat.reduceBEq,reduceLT,reduceAdd] <;> try simp))
       (refine Y_go 600 ?_; dsimp only[go_sem,lkE,In.sv,Nat.reduceBEq])
       refine⟨((j+1:Nat):Int),ArOk.to (by omega) (by omega) (by omega),zj02 fun a W rep=>again2 ⟨j+1,A,c⟩ (by show j+1≤2; omega) (by show 2 - (j+1) < 2 - j; omega) a W (rep.res.le (by simp only[hr1,bsv]; (simp only[go_sem,lk,Nat.reduceBEq,reduceLT,reduceAdd] <;> try simp)) ?_)⟩
       simp only[lkE,In.sv]
       rw[hE]
       (simp only[go_sem,lk,Nat.reduceBEq,reduceLT,reduceAdd] <;> try simp)
      | some u =>
       rw[hg] at hget hrj
       have hr1:rchJ m (i:Int) (j+1)=true:=by rw[hrj,hd]; rfl
       (refine Y_go 22 ?_; dsimp only[go_sem,Nat.reduceBEq,reduceAdd,Y_0])
       refine⟨⟨by omega,by omega⟩,insJ j,hb hlt2,hfit,_,hget,.val (.int .u8 u.toNat),rfl,?_⟩
       refine G.le (E':=⟨w,w.heap.size,[],81,[]⟩) (s':={ F:=[(44,.bt),(43,.val (.int .u8 u.toNat)),(4,.ptr 1 0),(5,.val (.int .i64 (i:Int))),(6,.ptr 3 0),(7,.bt),(21,.val (.slice B l.length bc)),(22,.val (.int .i64 l.length)),(23,.val (.int .i64 (i:Int))),(28,.slc 4 0 2 2),(29,.val (.int .i64 2)),(30,.val (.int .i64 (j:Int)))],H:=lkE gm gl B l.length bc m 0 A (fs++ext78 m l i++e7 m x i j).length c (fsV (fs++ext78 m l i++e7 m x i j))++[.cells gx 47 (In.sv x),.row gb 4 [.bool false,.bool true]] }) rfl (fun a W rep=>?_) ?_
       ·exact (zj5a 44 rep rfl).le (by simp only[bsv,Option.map,Option.isSome]; (simp only[go_sem,lk,Nat.reduceBEq,reduceLT,reduceAdd] <;> try simp)) (by simp only[lkE,In.sv]; (simp only[go_sem,lk,Nat.reduceBEq,reduceLT,reduceAdd] <;> try simp))
       (refine Y_go 600 ?_; dsimp only[go_sem,lkE,In.sv,Nat.reduceBEq,reduceAdd])
       cases hlg:legalB x with
       | false =>
        have hE:e7 m x i (j+1)=e7 m x i j:=by
         rw[h77]; simp[h7,hg,hlg]
        refine zj00 (vs:=[In.val x]) rfl (fun W hW=>zj19 x W (hG0.at hW)) fun v hv=>⟨.bf,by rw[hv,hlg]; simp[Is],?_⟩
        (refine Y_go 600 ?_; dsimp only[go_sem,Nat.reduceBEq])
        refine⟨((j+1:Nat):Int),ArOk.to (by omega) (by omega) (by omega),zj02 fun a W rep=>again2 ⟨j+1,A,c⟩ (by show j+1≤2; omega) (by show 2 - (j+1) < 2 - j; omega) a W (rep.res.le (by simp only[hr1,bsv]; (simp only[go_sem,lk,Nat.reduceBEq,reduceLT,reduceAdd] <;> try simp)) ?_)⟩
        simp only[lkE,In.sv]
        rw[hE]
        (simp only[go_sem,lk,Nat.reduceBEq,reduceLT,reduceAdd] <;> try simp)
       | true =>
        refine zj00 (vs:=[In.val x]) rfl (fun W hW=>zj19 x W (hG0.at hW)) fun v hv=>⟨.bt,by rw[hv,hlg]; simp[Is],?_⟩
        (refine Y_go 600 ?_; dsimp only[go_sem,Nat.reduceBEq,reduceAdd])
        refine zj00 (vs:=[In.val x]) rfl (fun W hW=>reads40 x hlg W) fun v hv=>⟨.val (.int .u8 (readsB x).toNat),by rw[hv]; simp[Is,u8V],?_⟩
        (refine Y_go 600 ?_; dsimp only[go_sem,Nat.reduceBEq])
        refine⟨_,andn8 _ _,fun hne=>?_,fun heq=>?_⟩
        ·have hh:h7 m x i (insJ j)=true:=by
          simp only[h7,hg,hlg,Bool.true_and,decide_eq_true_eq]
          intro e
          rw[e] at hne
          simp at hne
         have hE:e7 m x i (j+1)=e7 m x i j++[(7,(i:Int))]:=by
          rw[h77,if_pos hh]
         refine zj0h (C:=cxOf Tryz.prog Tryz.f7 K7 T7 R) rfl (gm:=gm) (gl:=gl) (B:=B) (bn:=l.length) (bc:=bc) (m:=m) (k:=0) (A:=A) (n:=(fs++ext78 m l i++e7 m x i j).length) (c:=c) (xs:=fsV (fs++ext78 m l i++e7 m x i j)) (cd:=7) (p:=i) (r:=[.cells gx 47 (In.sv x),.row gb 4 [.bool false,.bool true]]) (by omega) ?_ fun A' c'=>zj0z ?_
         ·rfl
         (refine Y_go 600 ?_; dsimp only[go_sem,reduceAdd,lkE,In.sv,Nat.reduceBEq])
         refine⟨((j+1:Nat):Int),ArOk.to (by omega) (by omega) (by omega),zj02 fun a W rep=>again2 ⟨j+1,A',c'⟩ (by show j+1≤2; omega) (by show 2 - (j+1) < 2 - j; omega) a W (rep.res.le (by simp only[hr1,bsv]; (simp only[go_sem,lk,Nat.reduceBEq,reduceLT,reduceAdd] <;> try simp)) ?_)⟩
         simp only[lkE,In.sv]
         rw[hE]
         (simp only[go_sem,lk,Nat.reduceBEq,reduceLT,reduceAdd] <;> try simp)
         simp only[zj40,List.append_assoc,List.length_append,List.length_cons,List.length_nil]; exact⟨by omega,rfl⟩
        ·have hh:¬ h7 m x i (insJ j)=true:=by
          simp only[h7,hg,hlg,Bool.true_and,decide_eq_true_eq]
          intro e
          have h0:(readsB x &&& ~~~u).toNat=0:=by simpa using heq
          exact e (BitVec.eq_of_toNat_eq (by rw[h0]; rfl))
         have hE:e7 m x i (j+1)=e7 m x i j:=by
          rw[h77,if_neg hh]; simp
         refine⟨((j+1:Nat):Int),ArOk.to (by omega) (by omega) (by omega),zj02 fun a W rep=>again2 ⟨j+1,A,c⟩ (by show j+1≤2; omega) (by show 2 - (j+1) < 2 - j; omega) a W (rep.res.le (by simp only[hr1,bsv]; (simp only[go_sem,lk,Nat.reduceBEq,reduceLT,reduceAdd] <;> try simp)) ?_)⟩
         simp only[lkE,In.sv]
         rw[hE]
         (simp only[go_sem,lk,Nat.reduceBEq,reduceLT,reduceAdd] <;> try simp)
     ·have hj2:j=2:=by have:=of_decide_eq_false hge2; omega
      subst hj2
      (refine Y_go 600 ?_; dsimp only[go_sem,Nat.reduceBEq])
      have hE:fs++ext78 m l (i+1)=fs++ext78 m l i++e7 m x i 2:=by
       simp only[ext78,hx,e78,hd]
       simp
      refine⟨((i+1:Nat):Int),ArOk.to (by omega) (by omega) (by omega),zj02 fun a W rep=>again ⟨i+1,A,c⟩ (by show i+1≤_; omega) (by show l.length - (i+1) < l.length - i; omega) a W (rep.res.le (by (simp only[go_sem,lk,Nat.reduceBEq,reduceLT,reduceAdd] <;> try simp)) ?_)⟩
      simp only[lkE]
      rw[hE]
      (simp only[go_sem,lk,Nat.reduceBEq,reduceLT,reduceAdd] <;> try simp)
  ·have hil:i=l.length:=by have:=of_decide_eq_false hge; omega
   subst hil
   (refine Y_go 600 ?_; dsimp only[go_sem,Nat.reduceBEq,reduceAdd])
   have hns:(fs++ext78 m l l.length).length≤1000000000:=by omega
   refine zj0b (vs:=[.slice A (fs++ext78 m l l.length).length c,.func (.func 23) #[] #[]]) rfl (fun W hW=>sort42 (i:=2) hW rfl hns) fun W v W' hW ⟨hv,hW'⟩=>⟨.tup [],_,by rw[hv]; simp[Is,IsL],HExt.setOwn (i:=2) rfl (Nat.le_refl _) (fun _=>⟨rfl,rfl,rfl⟩),hW',?_⟩
   have hsl:(fs++ext78 m l l.length).length=(srt (fs++ext78 m l l.length)).length:=(List.length_mergeSort _).symm
   (refine Y_go 600 ?_; dsimp only[go_sem,Nat.reduceBEq,reduceAdd])
   rw[hsl]
   refine zj0b (vs:=[.slice A (srt (fs++ext78 m l l.length)).length c]) rfl (fun W hW=>compact46 (i:=2) hW rfl (by rw[← hsl]; exact hns)) fun W v W' hW ⟨hv,hx,hW'⟩=>⟨.own 2 1,_,by rw[hv]; simp only[Is]; exact⟨_,_,_,_,_,_,_,rfl,Nat.le_refl _,⟨_,_,_,rfl⟩,fun _=>rfl⟩,hx,hW',?_⟩
   (refine Y_go 600 ?_; dsimp only[go_sem,reduceAdd,Nat.reduceBEq])
   refine zj01 (vs:=[.slice A (ddp (srt (fs++ext78 m l l.length))).length c,.int .i64 0]) r7 rfl rfl fun W' hW'=>hR _ _ ⟨m,fs,A,c,hfin,rfl,hW'.owns (i:=2) rfl,hW'.fresh'⟩
open Go.Sort Go.Proofs
def lt2 (x y:Int × Int):Prop:=x.1 < y.1∨x.1=y.1∧x.2 < y.2
def le2 (x y:Int × Int):Prop:=x.1 < y.1∨x.1=y.1∧x.2≤y.2
theorem leF2_is (x y:Int × Int):leF2 x y=true ↔ le2 x y:=by
 unfold leF2 le2
 rw[zj6m]
 simp
 omega
theorem srt_sorted (l:List (Int × Int)):(srt l).Pairwise le2:=by
 have h:=List.pairwise_mergeSort (le:=leF2) (fun a b c h1 h2=>by rw[leF2_is] at *; unfold le2 at *; omega) (fun a b=>by
  rw[Bool.or_eq_true,leF2_is,leF2_is]; unfold le2; omega) l
 exact h.imp fun h=>(leF2_is _ _).1 h
theorem mem_srt {l:List (Int × Int)} {x:Int × Int}:x ∈ srt l ↔ x ∈ l:=List.mem_mergeSort
theorem mem_ddp {x:Int × Int}:∀ (l:List (Int × Int)),x ∈ ddp l ↔ x ∈ l
 | []=>by simp[ddp]
 | [y]=>by simp[ddp]
 | y :: z :: r=>by
  have:=mem_ddp (x:=x) (z :: r)
  simp only[ddp]
  split
  ·rename_i h; subst h; rw[this]; simp
  ·rw[List.mem_cons,this,List.mem_cons (a:=x) (b:=y)]
theorem zj6o:∀ (l:List (Int × Int)),l.Pairwise le2→(ddp l).Pairwise lt2
 | [],_=>by simp[ddp]
 | [y],_=>by simp[ddp]
 | y :: z :: r,h=>by
  have h1:=List.pairwise_cons.1 h
  have ih:=zj6o (z :: r) h1.2
  simp only[ddp]
  split
  ·exact ih
  ·rename_i hne
   refine List.pairwise_cons.2 ⟨fun u hu=>?_,ih⟩
   have hu:=(mem_ddp _).1 hu
   have hyz:=h1.1 z (by simp)
   have hlt:lt2 y z:=by
    unfold le2 at hyz; unfold lt2
    have:¬ (y.1=z.1∧y.2=z.2):=fun⟨a,b⟩=>hne (Prod.ext a b)
    omega
   rcases List.mem_cons.1 hu with rfl | hu
   ·exact hlt
   ·have:=(List.pairwise_cons.1 h1.2).1 u hu
    unfold le2 at this; unfold lt2 at *; omega
def BadP (l:List In) (c p:Int):Prop:=WalkBad l c p ∨
 (c=7∧∃ x,0≤p∧l[p.toNat]? = some x∧legalB x=true∧∃ r b,r < 8∧(readsB x).getLsbD r=true∧Unset l r (p,b)) ∨
 (c=8∧0≤p∧p < l.length∧¬ Go.Lint.Reach l (p,false)∧¬ Go.Lint.Reach l (p,true))
theorem mem_e7 {m:Go.Lint.Met} {x:In} {i c p:Int}:(c,p) ∈ e7 m x i 2 ↔ c=7∧p=i∧∃ b,h7 m x i b=true:=by
 have h0:insJ 0=false:=rfl
 have h1:insJ 1=true:=rfl
 simp only[e7,List.nil_append,List.mem_append,h0,h1]
 constructor
 ·rintro (h | h)
  ·split at h
   ·rename_i h'
    simp at h
    exact⟨h.1,h.2,false,h'⟩
   ·simp at h
  ·split at h
   ·rename_i h'
    simp at h
    exact⟨h.1,h.2,true,h'⟩
   ·simp at h
 ·rintro ⟨rfl,rfl,b,hb⟩
  cases b
  ·left; rw[if_pos hb]; simp
  ·right; rw[if_pos hb]; simp
theorem mem_e78 {m:Go.Lint.Met} {x:In} {i c p:Int}:(c,p) ∈ e78 m x i ↔ (c=7∧p=i∧∃ b,h7 m x i b=true)∨(c=8∧p=i∧get m (i,false)=none∧get m (i,true)=none):=by
 have h2:rchJ m i 2=((get m (i,false)).isSome || (get m (i,true)).isSome):=rfl
 simp only[e78,List.mem_append,mem_e7]
 refine or_congr Iff.rfl ?_
 rw[h2]
 cases get m (i,false) <;> cases get m (i,true) <;> simp
theorem mem_ext78 {m:Go.Lint.Met} {l:List In} {c p:Int}:∀ n,n≤l.length→((c,p) ∈ ext78 m l n ↔ ∃ i x,i < n∧l[i]? = some x∧(c,p) ∈ e78 m x i)
 | 0,_=>by simp[ext78]
 | n+1,h=>by
  have ih:=mem_ext78 (m:=m) (l:=l) (c:=c) (p:=p) n (by omega)
  have hx:l[n]? = some (l[n]'(by omega)):=List.getElem?_eq_getElem (by omega)
  simp only[ext78,List.mem_append,ih,hx]
  constructor
  ·rintro (⟨i,x,h1,h2,h3⟩ | h3)
   ·exact⟨i,x,by omega,h2,h3⟩
   ·exact⟨n,_,by omega,hx,h3⟩
  ·rintro ⟨i,x,h1,h2,h3⟩
   by_cases e:i=n
   ·subst e
    rw[hx] at h2
    injection h2 with h2
    right; rw[h2]; exact h3
   ·exact .inl ⟨i,x,by omega,h2,h3⟩
theorem and_not_ne {a b:Set8}:a &&& ~~~ b ≠ 0#8 ↔ ∃ r,r < 8∧a.getLsbD r=true∧b.getLsbD r=false:=by
 constructor
 ·intro h
  apply Classical.byContradiction
  intro hn
  refine h (BitVec.eq_of_getLsbD_eq fun i hi=>?_)
  rw[BitVec.getLsbD_and,BitVec.getLsbD_not]
  have:=fun h1 h2=>hn ⟨i,hi,h1,h2⟩
  cases ha:a.getLsbD i <;> cases hb:b.getLsbD i <;> simp_all
 ·rintro ⟨r,hr,ha,hb⟩ h
  have:=congrArg (fun v=>v.getLsbD r) h
  simp only[BitVec.getLsbD_and,BitVec.getLsbD_not,ha,hb] at this
  simp[hr] at this
theorem h7_is {l:List In} {m:Go.Lint.Met} {fs:List (Int × Int)} (hf:Fin l m fs) {x:In} {i:Int} {b:Bool}:h7 m x i b=true ↔ legalB x=true∧∃ r,r < 8∧(readsB x).getLsbD r=true∧Unset l r (i,b):=by
 unfold h7
 cases hg:get m (i,b) with
 | none =>
  simp only[Bool.false_eq_true,false_iff]
  rintro ⟨_,r,_,_,hu⟩
  obtain⟨u,hu⟩:=(hf.reach (i,b)).2 hu.reach
  rw[hg] at hu; cases hu
 | some u =>
  simp only[Bool.and_eq_true,decide_eq_true_eq]
  refine and_congr Iff.rfl ?_
  rw[and_not_ne]
  constructor
  ·rintro ⟨r,hr,h1,h2⟩
   exact⟨r,hr,h1,(hf.unset _ _ hg r hr).1 h2⟩
  ·rintro ⟨r,hr,h1,h2⟩
   exact⟨r,hr,h1,(hf.unset _ _ hg r hr).2 h2⟩
theorem mem_found {l:List In} {m:Go.Lint.Met} {fs:List (Int × Int)} (hf:Fin l m fs) (c p:Int):(c,p) ∈ ddp (srt (fs++ext78 m l l.length)) ↔ BadP l c p:=by
 rw[mem_ddp,mem_srt,List.mem_append,hf.found,mem_ext78 _ (Nat.le_refl _)]
 unfold BadP
 refine or_congr Iff.rfl ?_
 have hno:∀ s,get m s=none ↔ ¬ Go.Lint.Reach l s:=fun s=>by
  rw[← hf.reach s]
  cases get m s <;> simp
 constructor
 ·rintro ⟨i,x,hi,hx,h⟩
  rw[mem_e78] at h
  rcases h with⟨rfl,rfl,b,hb⟩ | ⟨rfl,rfl,h1,h2⟩
  ·obtain⟨hl,r,hr,h1,h2⟩:=(h7_is hf).1 hb
   exact .inl ⟨rfl,x,by omega,by simpa using hx,hl,r,b,hr,h1,h2⟩
  ·exact .inr ⟨rfl,by omega,by omega,(hno _).1 h1,(hno _).1 h2⟩
 ·rintro (⟨rfl,x,h0,hx,hl,r,b,hr,h1,h2⟩ | ⟨rfl,h0,h1,h2,h3⟩)
  ·have hlt:p.toNat < l.length:=by
    rcases Nat.lt_or_ge p.toNat l.length with h | h
    ·exact h
    ·rw[List.getElem?_eq_none h] at hx; cases hx
   have hp:((p.toNat:Nat):Int)=p:=by omega
   refine⟨p.toNat,x,hlt,hx,mem_e78.2 (.inl ⟨rfl,hp.symm,b,?_⟩)⟩
   rw[hp]
   exact (h7_is hf).2 ⟨hl,r,hr,h1,h2⟩
  ·have hp:((p.toNat:Nat):Int)=p:=by omega
   refine⟨p.toNat,l[p.toNat]'(by omega),by omega,List.getElem?_eq_getElem _,mem_e78.2 (.inr ⟨rfl,hp.symm,?_,?_⟩)⟩
   ·rw[hp]; exact (hno _).2 h2
   ·rw[hp]; exact (hno _).2 h3
structure FoundOk (l:List In) (fs:List (Int × Int)):Prop where
 mem:∀ c p,(c,p) ∈ fs ↔ BadP l c p
 up:fs.Pairwise lt2
theorem found_ok {l:List In} {m:Go.Lint.Met} {fs:List (Int × Int)} (hf:Fin l m fs):FoundOk l (ddp (srt (fs++ext78 m l l.length))) :=
 ⟨mem_found hf,zj6o _ (srt_sorted _)⟩
theorem look22F (l:List In) (B:Option Addr) (bc:Nat) (w:World) (hl:l.length≤1024) (hB:RowAt w B (cellsI l)) (hG:ShAt w) :
  CallsV Tryz.prog 7 [.slice B l.length bc] w fun v w'=>∃ (A:Option Addr) (c:Nat) (fs:List (Int × Int)),FoundOk l fs∧v=.tuple #[.slice A fs.length c,.int .i64 0] ∧
   World.ownsB w' w.heap.size 33 2 (.slice A fs.length c) fs.length (fsV fs)∧Fresh w w' :=
 (look22 l B bc w hl hB hG).mono fun _ _ ⟨_,_,A,c,hf,hv,ho,hk⟩=>⟨A,c,_,found_ok hf,hv,ho,hk⟩
theorem zj7u {l:List In} (hl:l.length≤1024) {s:Spot} (h:Go.Lint.Reach l s):0≤s.1:=by
 induction h with
 | start=>exact Int.le_refl _
 | step s n x _ h1 _ h3 ih=>exact (zj3l ih h1 hl h3).1
theorem some_lt {l:List In} {k:Nat} {x:In} (h:l[k]? = some x):k < l.length:=by
 rcases Nat.lt_or_ge k l.length with h' | h'
 ·exact h'
 ·rw[List.getElem?_eq_none h'] at h; cases h
theorem bad_fits {l:List In} {c p:Int} (hl:l.length≤1024) (h:BadP l c p):0≤p∧p < l.length∧∃ x,l[p.toNat]? = some x∧((c=1∧legalB x=false)∨(c=2∧x.op=18)∨(c=3∧x.op=17)∨(c=4∧x.op=1)∨(c=5∧legalB x=true∧x.op ≠ 1) ∨
  (c=6∧legalB x=true∧13≤x.op∧x.op≤16∧(x.imm < 0∨1024 < x.imm))∨(c=7∧legalB x=true)∨(c=8∧0 < p)):=by
 rcases h with⟨s,x,hr,rfl,hx,h⟩ | ⟨rfl,x,h0,hx,hlg,_⟩ | ⟨rfl,h0,h1,h2,h3⟩
 ·have h0:=zj7u hl hr
  have h1:=some_lt hx
  refine⟨h0,by omega,x,hx,?_⟩
  rcases h with⟨rfl,h⟩ | ⟨hlg,h | ⟨rfl,n,hn,_⟩⟩
  ·exact .inl ⟨rfl,h⟩
  ·unfold fnd at h
   split at h
   ·split at h
    ·simp at h; subst h; right; right; right; left; exact⟨rfl,by assumption⟩
    ·simp at h
   ·split at h
    ·rename_i e; simp at h; subst h; right; right; left; exact⟨rfl,e.1⟩
    ·split at h
     ·rename_i e; simp at h; subst h; right; left; exact⟨rfl,e.1⟩
     ·split at h
      ·simp at h
      ·split at h
       ·rename_i e; simp at h; subst h; right; right; right; right; right; left; exact⟨rfl,hlg,e.1,e.2.1,e.2.2⟩
       ·simp at h
  ·refine .inr (.inr (.inr (.inr (.inl ⟨rfl,hlg,fun e=>?_⟩))))
   unfold nxt at hn
   rw[if_pos e] at hn
   simp at hn
 ·have h1:=some_lt hx
  exact⟨h0,by omega,x,hx,by right; right; right; right; right; right; left; exact⟨rfl,hlg⟩⟩
 ·refine⟨h0,h1,_,List.getElem?_eq_getElem (show p.toNat < l.length by omega),?_⟩
  right; right; right; right; right; right; right
  refine⟨rfl,?_⟩
  rcases Int.lt_or_eq_of_le h0 with h | h
  ·exact h
  ·subst h; exact absurd Go.Lint.Reach.start h2
end Go.Proofs.YtgghmmjoplddbaaGreatDoor
