/- slices.Compact at numbers. -/
import Derived.Test.YtgghmmjoplddbaaGreatDoorZBgIsa1
import Derived.Test.YtgghmmjoplddbaaGreatDoorFlPlain
import Derived.Test.YtgghmmjoplddbaaGreatDoorZFlCode
import Derived.Shelf.Sort.Plain
import Derived.Shelf.Slices.In.SortNone
import Derived.Shelf.Slices.SearchI
import Derived.KernelRfl
set_option linter.unusedSimpArgs false
set_option linter.unusedVariables false
set_option linter.unnecessarySimpa false
namespace Go.Proofs.YtgghmmjoplddbaaGreatDoor
open Go Go.Sx Go.Isa
set_option maxRecDepth 100000
def AtI (cur:List Value) (b:Nat) (l:List Int):Prop:=∀ j x,l[j]? = some x→cur[b+j*1]? = some (.int .i64 x)
theorem set1_get {cu:List Value} {a:Nat} {n:Value} (h:a+1≤cu.length) (j:Nat):(setn cu a n)[j]? = if j=a then some n else cu[j]? := by
 rw[zj0k,List.getElem?_set]
 by_cases h1:j=a
 ·subst h1; simp; omega
 ·rw[if_neg (fun e=>h1 e.symm),if_neg h1]
theorem AtI.snoc {cu:List Value} {b:Nat} {l:List Int} {v:Int} (h:AtI cu b l) (hl:b+l.length*1+1≤cu.length):AtI (setn cu (b+l.length*1) (.int .i64 v)) b (l++[v]):=by
 intro j z hj
 rw[set1_get hl]
 rcases Nat.lt_trichotomy j l.length with hjl | hjl | hjl
 ·rw[List.getElem?_append_left hjl] at hj
  rw[if_neg (by omega)]
  exact h j z hj
 ·subst hjl
  simp at hj
  subst hj
  rw[if_pos rfl]
 ·rw[List.getElem?_eq_none (by simp; omega)] at hj
  cases hj
theorem opsI_nil {C:Cx} {E:Env} {k:List KI} {s:SS} (h:G C E k s):G C E (.ops [] :: k) s:=by
 intro a W rep ops ol hol
 have:ol=[]:=by
  cases ol with
  | nil=>rfl
  | cons x l=>simp only[cmpL] at hol; split at hol <;> simp at hol
 subst this
 exact h a W rep
structure CI where
 k:Nat
 k2:Nat
 cur:List Value
theorem compact69r {b0:World} {N:Nat} {st:List Nat} {nt0:Nat} {mk0:List Nat} (g b c:Nat) (cur:List Value) (fs:List Int) (W:World) (hn:fs.length≤1000000000) (h2:fs.length≤c) (hc:b+c*1=cur.length) (hcm:c≤maxLen) (hcur:AtI cur b fs)
  (hW:HeapOk ⟨b0,N,st,nt0,mk0⟩ [.row g 3 cur] W) :
  CallsV Tryz.prog 107 [.slice (some ⟨g,b,none⟩) fs.length c] W fun v W'=>v=.slice (some ⟨g,b,none⟩) (dpI fs).length c∧∃ cur',cur'.length=cur.length∧AtI cur' b (dpI fs)∧HeapOk ⟨b0,N,st,nt0,mk0⟩ [.row g 3 cur'] W':=by
 refine zj0j (keep:=K107) (nt:=61) (svs:=[.slc 0 b fs.length c]) Tryz.func107 x107 n107 (by simp) hW (by simp[IsL,Is,blk,nth]) fun R hR=>?_
 (refine Y_go 600 ?_; dsimp only[go_sem,Nat.reduceAdd,Nat.reduceBEq])
 refine⟨fun hlt=>?_,fun hge=>?_⟩
 ·have hlt:fs.length < 2:=by have:=of_decide_eq_true hlt; omega
  have hd:dpI fs=fs:=by
   match fs,hlt with
   | [],_=>rfl
   | [x],_=>rfl
  refine zj01 (vs:=[.slice (some ⟨g,b,none⟩) fs.length c]) r107 rfl rfl fun W' hW'=>hR _ _ ⟨by rw[hd]; rfl,cur,rfl,by rw[hd]; exact hcur,HeapOk.env (E:=⟨b0,N,st,61,[]⟩) (E':=⟨b0,N,st,nt0,mk0⟩) rfl rfl rfl hW'⟩
 ·have hge:2≤fs.length:=by have:=of_decide_eq_false hge; omega
  refine zj08 (α:=Nat) (fun k=>1≤k∧k≤fs.length∧dpI (fs.take k)=fs.take k) (fun _=>⟨b0,N,st,61,[]⟩) (fun k=>{ F:=[(0,.slc 0 b fs.length c),(3,.val (.int .i64 (k:Int)))],H:=[.row g 3 cur] }) (fun k=>fs.length - k) (fun _=>rfl) ?start ?round
  case start =>
   intro a W rep
   refine⟨1,⟨by omega,by omega,?_⟩,rep.lq⟩
   match fs,hge with
   | x :: y :: r,_=>rfl
  case round =>
   intro k ⟨hk1,hkn,hd⟩ I again
   (refine Y_go 600 ?_; dsimp only[go_sem,Nat.reduceBEq])
   refine⟨fun hlt=>?_,fun hlt=>?_⟩
   ·have hlt:k < fs.length:=by have:=of_decide_eq_true hlt; omega
    obtain⟨k,rfl⟩:∃ m,k=m+1:=⟨k - 1,by omega⟩
    have hx:fs[k]? = some fs[k]:=List.getElem?_eq_getElem (by omega)
    have hy:fs[k+1]? = some fs[k+1]:=List.getElem?_eq_getElem hlt
    generalize hxx:fs[k]'(by omega)=x at hx
    generalize hyy:fs[k+1]=y at hy
    have cx:=hcur k _ hx
    have cy:=hcur (k+1) _ hy
    have e1:((k+1:Nat):Int).toNat=k+1:=by omega
    have e2:(((k+1:Nat):Int) - 1).toNat=k:=by omega
    refine⟨⟨by omega,by omega⟩,y,by rw[e1]; exact cy,_,ArOk.sub64 (by omega) (by omega),⟨by omega,by omega⟩,x,by rw[e2]; exact cx,fun heq=>⟨⟨by omega,by omega⟩,?_⟩,fun hne=>?_⟩
    ·have heq:y=x:=by simpa using heq
     have heq':x=y:=heq.symm
     have hd2:dpI (fs.take (k+1+1))=fs.take (k+1):=by
      have:=zj7i hx hy
      rw[if_pos heq'] at this
      rw[this,hd]
     have e3:subO b c ((k+1:Nat):Int).toNat 1=b+(k+1)*1:=by
      unfold subO
      rw[if_neg (by omega),e1]
     rw[e3,e1]
     refine zj08 (α:=CI) (fun x=>(x.k=(dpI (fs.take (k+1+x.k2))).length∧k+1≤x.k∧x.k≤k+x.k2)∧(1≤x.k2∧k+1+x.k2≤fs.length)∧AtI x.cur b (dpI (fs.take (k+1+x.k2)))∧(∀ j z,k+x.k2≤j→fs[j]? = some z→x.cur[b+j*1]? = some (.int .i64 z))∧x.cur.length=cur.length) (fun _=>⟨b0,N,st,61,[]⟩)
      (fun x=>{ F:=[(0,.slc 0 b fs.length c),(3,.val (.int .i64 (x.k:Int))),(4,.slc 0 (b+(k+1)*1) (fs.length - (k+1)) (c - (k+1))),(5,.val (.int .i64 (x.k2:Int)))],H:=[.row g 3 x.cur] }) (fun x=>fs.length - x.k2) (fun _=>rfl) ?start ?round
     case start =>
      intro a W rep
      refine⟨⟨k+1,1,cur⟩,⟨⟨?_,by simp,by simp⟩,⟨by simp,by simp; omega⟩,?_,fun j z _ hj=>hcur j z hj,rfl⟩,rep.lq⟩
      ·show k+1=(dpI (fs.take (k+1+1))).length
       rw[hd2]; simp; omega
      ·show AtI cur b (dpI (fs.take (k+1+1)))
       rw[hd2]
       intro j z hj
       rw[List.getElem?_take] at hj
       split at hj
       ·exact hcur j z hj
       ·cases hj
     case round =>
      intro x ⟨⟨q1,q2,q3⟩,⟨q4,q5⟩,q6,q7,q8⟩ I2 again2
      obtain⟨kk,k2,cu⟩:=x
      simp only at q1 q2 q3 q4 q5 q6 q7 q8
      (refine Y_go 14 ?_; dsimp only[go_sem,Nat.reduceBEq,Y_0])
      refine⟨fun hlt2=>?_,fun hlt2=>?_⟩
      ·have hlt2:k+1+k2 < fs.length:=by have:=of_decide_eq_true hlt2; omega
       (refine Y_go 600 ?_; dsimp only[go_sem,Nat.reduceBEq])
       have hu:fs[k+k2]? = some fs[k+k2]:=List.getElem?_eq_getElem (by omega)
       have hv:fs[k+k2+1]? = some fs[k+k2+1]:=List.getElem?_eq_getElem (by omega)
       generalize fs[k+k2]'(by omega)=u at hu
       generalize fs[k+k2+1]'(by omega)=v at hv
       have cu1:=q7 (k+k2) _ (by omega) hu
       have cv1:=q7 (k+k2+1) _ (by omega) hv
       have f1:((k2:Nat):Int).toNat=k2:=by omega
       have f2:((k2 - 1:Nat):Int).toNat=k2 - 1:=by omega
       have f3:((kk:Nat):Int).toNat=kk:=by omega
       have p1:b+(k+1)*1+k2*1=b+(k+k2+1)*1:=by omega
       have p2:b+(k+1)*1+(k2 - 1)*1=b+(k+k2)*1:=by omega
       have w1:k+1+k2=k+k2+1:=by omega
       have w2:k+1+(k2+1)=k+k2+2:=by omega
       have hst:=zj7i hu hv
       rw[w1] at q1 q6
       rw[f1,f3,p1]
       refine⟨⟨by omega,by omega⟩,v,cv1,((k2 - 1:Nat):Int),ArOk.toSub (by omega) (by omega) (by omega),⟨by omega,by omega⟩,u,by rw[f2,p2]; exact cu1,fun hne=>?_,fun heq=>?_⟩
       ·have hne:¬ u=v:=by
         intro h
         simp[h] at hne
        rw[if_neg hne] at hst
        have hfit:b+kk*1+1≤cu.length:=by omega
        refine⟨⟨by omega,by omega⟩,v,cv1,⟨by omega,by omega⟩,hfit,((kk+1:Nat):Int),ArOk.to (by omega) (by omega) (by omega),((k2+1:Nat):Int),ArOk.to (by omega) (by omega) (by omega),zj02 fun a W rep=>again2 ⟨kk+1,k2+1,setn cu (b+kk*1) (.int .i64 v)⟩ ⟨⟨?_,by simp only; omega,by simp only; omega⟩,⟨by simp only; omega,by simp only; omega⟩,?_,?_,?_⟩ (by simp only; omega) a W (rep.lq)⟩
        ·show kk+1=(dpI (fs.take (k+1+(k2+1)))).length
         rw[w2,hst,q1]; simp
        ·show AtI _ b (dpI (fs.take (k+1+(k2+1))))
         rw[w2,hst,q1]
         exact q6.snoc (v:=v) (by rw[← q1]; exact hfit)
        ·intro j z hj hz
         have hj:k+(k2+1)≤j:=hj
         show (setn cu (b+kk*1) (.int .i64 v))[b+j*1]? = _
         rw[set1_get hfit,if_neg (by omega)]
         exact q7 j z (by omega) hz
        ·show (setn cu (b+kk*1) (.int .i64 v)).length=_
         rw[zj0k,List.length_set,q8]
       ·have heq:u=v:=(by simpa using heq:v=u).symm
        rw[if_pos heq] at hst
        refine⟨((k2+1:Nat):Int),ArOk.to (by omega) (by omega) (by omega),zj02 fun a W rep=>again2 ⟨kk,k2+1,cu⟩ ⟨⟨?_,q2,by simp only; omega⟩,⟨by simp only; omega,by simp only; omega⟩,?_,fun j z hj hz=>q7 j z (by simp only at hj; omega) hz,q8⟩ (by simp only; omega) a W (rep.lq)⟩
        ·show kk=(dpI (fs.take (k+1+(k2+1)))).length
         rw[w2,hst]; exact q1
        ·show AtI _ b (dpI (fs.take (k+1+(k2+1))))
         rw[w2,hst]; exact q6
      ·have hlt2:k+1+k2=fs.length:=by have:=of_decide_eq_false hlt2; omega
       (refine Y_go 3 ?_; dsimp only[go_sem,Nat.reduceBEq,Y_0])
       rw[hlt2,List.take_length] at q1 q6
       have f3:((kk:Nat):Int).toNat=kk:=by omega
       refine⟨⟨by omega,by omega⟩,?_⟩
       have e4:subO b c kk 1=b+kk*1:=by
        unfold subO
        rw[if_neg (by omega)]
       rw[f3,e4]
       have hrl:(repN (fs.length - kk) [Value.int .i64 0]).length=(fs.length - kk)*1:=by rw[zj14]; rfl
       refine clr_rule (i:=0) (off:=b+kk*1) (n:=fs.length - kk) (c:=c - kk) rfl rfl (by omega) (by simp[Value.oneCell']) ?_
       refine opsI_nil ?_
       (refine Y_go 600 ?_; dsimp only[go_sem,Nat.reduceBEq,Int.reduceToNat])
       refine⟨⟨by omega,by omega⟩,?_⟩
       refine zj01 (vs:=[.slice (some ⟨g,b,none⟩) kk c]) r107 rfl ?_ fun W' hW'=>hR _ _ ⟨by rw[q1]; rfl,splice cu (b+kk*1) (repN (fs.length - kk) [Value.int .i64 0]),by rw[zj0l,q8],?_,HeapOk.env (E:=⟨b0,N,st,61,[]⟩) (E':=⟨b0,N,st,nt0,mk0⟩) rfl rfl rfl hW'⟩
       ·show some [Value.slice (some ⟨g,b,none⟩) (((kk:Nat):Int).toNat - 0) (c - 0)]=_
        rw[f3]; rfl
       ·intro j z hj
        have hjl:j < kk:=by
         rw[q1]
         rcases Nat.lt_or_ge j (dpI fs).length with h | h
         ·exact h
         ·rw[List.getElem?_eq_none h] at hj; cases hj
        rw[zj0m _ _ _ _ (by omega),if_neg (by omega)]
        exact q6 j z hj
    ·have hne:¬ x=y:=by
      intro h
      simp[h] at hne
     refine⟨((k+1+1:Nat):Int),ArOk.to (by omega) (by omega) (by omega),zj02 fun a W rep=>again (k+1+1) ⟨by omega,by omega,?_⟩ (by omega) a W (rep.lq)⟩
     have:=zj7i hx hy
     rw[if_neg hne,hd] at this
     rw[this,zj2w hy]
   ·have hlt:k=fs.length:=by have:=of_decide_eq_false hlt; omega
    subst hlt
    have hd:dpI fs=fs:=by simpa using hd
    refine zj01 (vs:=[.slice (some ⟨g,b,none⟩) fs.length c]) r107 rfl rfl fun W' hW'=>hR _ _ ⟨by rw[hd]; rfl,cur,rfl,by rw[hd]; exact hcur,HeapOk.env (E:=⟨b0,N,st,61,[]⟩) (E':=⟨b0,N,st,nt0,mk0⟩) rfl rfl rfl hW'⟩
theorem compact69_0 (A:Option Addr) (W:World):CallsV Tryz.prog 107 [.slice A 0 0] W fun v W'=>v=.slice A 0 0∧Fresh W W':=by
 refine zj03 (keep:=K107) (nt:=61) (svs:=[.val (.slice A 0 0)]) Tryz.func107 x107 n107 (by simp) (by simp[IsL,Is]) fun R hR=>?_
 (refine Y_go 600 ?_; dsimp only[go_sem,Nat.reduceAdd,Nat.reduceBEq])
 refine⟨fun hlt=>?_,fun hge=>?_⟩
 ·exact zj01 (vs:=[.slice A 0 0]) r107 rfl rfl fun W' hW'=>hR _ _ ⟨rfl,hW'.fresh'⟩
 ·cases hge
theorem AtI.take {cur:List Value} {b:Nat} {l:List Int} (h:AtI cur b l):(cur.drop b).take (l.length*1)=isV l:=by
 apply List.ext_getElem?
 intro t
 by_cases ht:t < l.length*1
 ·rw[List.getElem?_take,if_pos ht,List.getElem?_drop]
  have hx:l[t]? = some l[t]:=List.getElem?_eq_getElem (by omega)
  have h1:=h _ _ hx
  rw[Nat.mul_one] at h1
  rw[h1,zj69 _ _ _ hx]
 ·rw[List.getElem?_eq_none (by simp; omega),List.getElem?_eq_none (by rw[zj68]; omega)]
theorem compact69 {E:Env} {H:List SO} {W:World} {i ver:Nat} {A:Option Addr} {c:Nat} {fs:List Int} (hW:HeapOk E H W) (hi:nth H i=some (.own 3 ver 1 A fs.length c (isV fs))) (hn:fs.length≤1000000000) :
  CallsV Tryz.prog 107 [.slice A fs.length c] W fun v W'=>v=.slice A (dpI fs).length c∧HExt H (setn H i (.own 3 (ver+1) 1 A (dpI fs).length c (isV (dpI fs))))∧HeapOk E (setn H i (.own 3 (ver+1) 1 A (dpI fs).length c (isV (dpI fs)))) W':=by
 have hext:HExt H (setn H i (.own 3 (ver+1) 1 A (dpI fs).length c (isV (dpI fs)))):=HExt.setOwn hi (Nat.le_succ _) fun h=>absurd h (by omega)
 have he0:=hW.ents i _ hi
 obtain⟨hl,⟨h1,h2,h3⟩ | ⟨g,b,cur,rfl,hg,h1,h2,h3,h4⟩⟩:=he0
 ·have h0:fs=[]:=List.length_eq_zero_iff.1 h1
  subst h0
  subst h2
  refine (compact69_0 A W).mono fun v W' ⟨hv,hf⟩=>⟨hv,hext,?_⟩
  refine HeapOk.set (hW.freshK hf) hi hext (fun g hg=>.inl hg) (fun _ _ _=>rfl) (Nat.le_refl _) rfl rfl rfl ?_
  have:=(hW.freshK hf).ents i _ hi
  exact⟨by simp[dpI,isV],.inl ⟨rfl,rfl,fun a ha=>by
   obtain⟨_,⟨_,_,h5⟩ | ⟨g',b',cur',e1,e2,_⟩⟩:=this
   ·exact h5 a ha
   ·rw[e1] at ha; injection ha with ha; subst ha; exact⟨_,e2⟩⟩⟩
 ·have hg:W.heap[g]? = some (.cells cur 3 (0,0)):=hg
  have hgl:g < W.heap.size:=by
   rcases Nat.lt_or_ge g W.heap.size with h | h
   ·exact h
   ·rw[Array.getElem?_eq_none h] at hg
    cases hg
  have hcur:AtI cur.toList b fs:=by
   intro j x hj
   have hjl:j < fs.length:=by
    rcases Nat.lt_or_ge j fs.length with h | h
    ·exact h
    ·rw[List.getElem?_eq_none h] at hj; cases hj
   have:=zj69 fs j x hj
   rw[← h4,List.getElem?_take,List.getElem?_drop,if_pos (by omega)] at this
   rw[Nat.mul_one]; exact this
  have h0:HeapOk ⟨W,W.heap.size,[g],0,[]⟩ [.row g 3 cur.toList] W:=by
   refine⟨Keep.refl _ _,Nat.le_refl _,fun j e hj=>?_,fun j e g' hj hg'=>?_,fun j j' e e' g' hne hj hj' _ _=>?_⟩
   ·have:j < 1:=nth_lt hj
    obtain rfl:j=0:=by omega
    injection hj with hj; subst hj
    show W.heap[g]? = _
    rw[hg]
   ·have:j < 1:=nth_lt hj
    obtain rfl:j=0:=by omega
    injection hj with hj; subst hj
    injection hg' with hg'; subst hg'
    exact⟨hgl,fun ho=>ho.2 (by simp)⟩
   ·have q1:j < 1:=nth_lt hj
    have q2:j' < 1:=nth_lt hj'
    exact absurd (show j=j' by omega) hne
  refine (compact69r g b c cur.toList fs W hn h1 (by simpa using h3) h2 hcur h0).mono fun v W' ⟨hv,cur',hl',ha',hk⟩=>⟨hv,hext,?_⟩
  have hold:∀ j,j ≠ g→j < W.heap.size→Env.old ⟨W,W.heap.size,[g],0,[]⟩ j:=fun j hj hlt=>⟨hlt,by simpa using hj⟩
  have hg2:W'.heap[g]? = some (.cells cur'.toArray 3 (0,0)):=hk.ents 0 _ rfl
  have hdl:=dpI_len fs
  refine hW.set hi hext (fun g' hg'=>.inl hg') (fun j hj hlt=>hk.keep.block j (hold j (fun e=>hj (by rw[e]; rfl)) hlt)) hk.keep.size hk.keep.os hk.keep.tape hk.keep.output ?_
  exact⟨by rw[zj68,Nat.mul_one],.inr ⟨g,b,cur'.toArray,rfl,hg2,by omega,h2,by simp only[List.size_toArray]; rw[hl']; simpa using h3,ha'.take⟩⟩
open Go.Proofs Go.Shelf Go.RowKit Go.Sort
set_option maxRecDepth 1000000
set_option linter.unusedVariables false
def lays68_ren:Go.Shelf.Ren:=⟨fun | 125=>46 | 128=>78 | 129=>79 | 189=>106 | 215=>47 | 216=>149 | 257=>127 | 294=>151 | 295=>152 | 296=>153 | 297=>154 | 298=>155 | 299=>156 | 300=>157 | 301=>158 | 328=>174 | 329=>99 | 330=>100 | 331=>175 | 332=>176 | 343=>192 | n=>n,fun | 28=>77 | 46=>105 | 51=>158 | 53=>23 | 131=>155 | 182=>150 | 183=>151 | 218=>178 | 222=>182 | 228=>198 | 229=>199 | n=>n,fun | n=>n⟩
theorem lays68:Go.Proofs.Lays.n189 Tryz.prog lays68_ren:={
 mixed:=by kernel_rfl,
 f125:=by first | exact Tryz.func46.trans (congrArg some (by kernel_rfl)) | exact⟨Tryz.f46.name,by kernel_rfl,Tryz.func46.trans (congrArg some (by kernel_rfl))⟩,
 f128:=by first | exact Tryz.func78.trans (congrArg some (by kernel_rfl)) | exact⟨Tryz.f78.name,by kernel_rfl,Tryz.func78.trans (congrArg some (by kernel_rfl))⟩,
 f129:=by first | exact Tryz.func79.trans (congrArg some (by kernel_rfl)) | exact⟨Tryz.f79.name,by kernel_rfl,Tryz.func79.trans (congrArg some (by kernel_rfl))⟩,
 f189:=by first | exact Tryz.func106.trans (congrArg some (by kernel_rfl)) | exact⟨Tryz.f106.name,by kernel_rfl,Tryz.func106.trans (congrArg some (by kernel_rfl))⟩,
 f215:=by first | exact Tryz.func47.trans (congrArg some (by kernel_rfl)) | exact⟨Tryz.f47.name,by kernel_rfl,Tryz.func47.trans (congrArg some (by kernel_rfl))⟩,
 f216:=by first | exact Tryz.func149.trans (congrArg some (by kernel_rfl)) | exact⟨Tryz.f149.name,by kernel_rfl,Tryz.func149.trans (congrArg some (by kernel_rfl))⟩,
 f257:=by first | exact Tryz.func127.trans (congrArg some (by kernel_rfl)) | exact⟨Tryz.f127.name,by kernel_rfl,Tryz.func127.trans (congrArg some (by kernel_rfl))⟩,
 f294:=by first | exact Tryz.func151.trans (congrArg some (by kernel_rfl)) | exact⟨Tryz.f151.name,by kernel_rfl,Tryz.func151.trans (congrArg some (by kernel_rfl))⟩,
 f295:=by first | exact Tryz.func152.trans (congrArg some (by kernel_rfl)) | exact⟨Tryz.f152.name,by kernel_rfl,Tryz.func152.trans (congrArg some (by kernel_rfl))⟩,
 f296:=by first | exact Tryz.func153.trans (congrArg some (by kernel_rfl)) | exact⟨Tryz.f153.name,by kernel_rfl,Tryz.func153.trans (congrArg some (by kernel_rfl))⟩,
 f297:=by first | exact Tryz.func154.trans (congrArg some (by kernel_rfl)) | exact⟨Tryz.f154.name,by kernel_rfl,Tryz.func154.trans (congrArg some (by kernel_rfl))⟩,
 f298:=by first | exact Tryz.func155.trans (congrArg some (by kernel_rfl)) | exact⟨Tryz.f155.name,by kernel_rfl,Tryz.func155.trans (congrArg some (by kernel_rfl))⟩,
 f299:=by first | exact Tryz.func156.trans (congrArg some (by kernel_rfl)) | exact⟨Tryz.f156.name,by kernel_rfl,Tryz.func156.trans (congrArg some (by kernel_rfl))⟩,
 f300:=by first | exact Tryz.func157.trans (congrArg some (by kernel_rfl)) | exact⟨Tryz.f157.name,by kernel_rfl,Tryz.func157.trans (congrArg some (by kernel_rfl))⟩,
 f301:=by first | exact Tryz.func158.trans (congrArg some (by kernel_rfl)) | exact⟨Tryz.f158.name,by kernel_rfl,Tryz.func158.trans (congrArg some (by kernel_rfl))⟩,
 f328:=by first | exact Tryz.func174.trans (congrArg some (by kernel_rfl)) | exact⟨Tryz.f174.name,by kernel_rfl,Tryz.func174.trans (congrArg some (by kernel_rfl))⟩,
 f329:=by first | exact Tryz.func99.trans (congrArg some (by kernel_rfl)) | exact⟨Tryz.f99.name,by kernel_rfl,Tryz.func99.trans (congrArg some (by kernel_rfl))⟩,
 f330:=by first | exact Tryz.func100.trans (congrArg some (by kernel_rfl)) | exact⟨Tryz.f100.name,by kernel_rfl,Tryz.func100.trans (congrArg some (by kernel_rfl))⟩,
 f331:=by first | exact Tryz.func175.trans (congrArg some (by kernel_rfl)) | exact⟨Tryz.f175.name,by kernel_rfl,Tryz.func175.trans (congrArg some (by kernel_rfl))⟩,
 f332:=by first | exact Tryz.func176.trans (congrArg some (by kernel_rfl)) | exact⟨Tryz.f176.name,by kernel_rfl,Tryz.func176.trans (congrArg some (by kernel_rfl))⟩,
 f343:=by first | exact Tryz.func192.trans (congrArg some (by kernel_rfl)) | exact⟨Tryz.f192.name,by kernel_rfl,Tryz.func192.trans (congrArg some (by kernel_rfl))⟩,
 t0:=Tryz.underlying0,
 a0:=Tryz.isAgg0,
 z0:=Tryz.sizeOf0,
 v0:=Tryz.zeroValue0,
 t3:=Tryz.underlying3,
 a3:=Tryz.isAgg3,
 z3:=Tryz.sizeOf3,
 v3:=Tryz.zeroValue3,
 t4:=Tryz.underlying4,
 a4:=Tryz.isAgg4,
 z4:=Tryz.sizeOf4,
 v4:=Tryz.zeroValue4,
 t5:=Tryz.underlying5,
 a5:=Tryz.isAgg5,
 z5:=Tryz.sizeOf5,
 v5:=Tryz.zeroValue5,
 t9:=Tryz.underlying9,
 a9:=Tryz.isAgg9,
 z9:=Tryz.sizeOf9,
 v9:=Tryz.zeroValue9,
 t28:=Tryz.underlying77,
 a28:=Tryz.isAgg77,
 z28:=Tryz.sizeOf77,
 v28:=Tryz.zeroValue77,
 t46:=Tryz.underlying105,
 a46:=Tryz.isAgg105,
 z46:=Tryz.sizeOf105,
 v46:=Tryz.zeroValue105,
 t51:=Tryz.underlying158,
 a51:=Tryz.isAgg158,
 z51:=Tryz.sizeOf158,
 v51:=Tryz.zeroValue158,
 t53:=Tryz.underlying23,
 a53:=Tryz.isAgg23,
 z53:=Tryz.sizeOf23,
 v53:=Tryz.zeroValue23,
 t131:=Tryz.underlying155,
 a131:=Tryz.isAgg155,
 z131:=Tryz.sizeOf155,
 v131:=Tryz.zeroValue155,
 t182:=Tryz.underlying150,
 a182:=Tryz.isAgg150,
 z182:=Tryz.sizeOf150,
 v182:=Tryz.zeroValue150,
 t183:=Tryz.underlying151,
 a183:=Tryz.isAgg151,
 z183:=Tryz.sizeOf151,
 v183:=Tryz.zeroValue151,
 t218:=Tryz.underlying178,
 a218:=Tryz.isAgg178,
 z218:=Tryz.sizeOf178,
 v218:=Tryz.zeroValue178,
 t222:=Tryz.underlying182,
 a222:=Tryz.isAgg182,
 z222:=Tryz.sizeOf182,
 v222:=Tryz.zeroValue182,
 t228:=Tryz.underlying198,
 a228:=Tryz.isAgg198,
 z228:=Tryz.sizeOf198,
 v228:=Tryz.zeroValue198,
 t229:=Tryz.underlying199,
 a229:=Tryz.isAgg199,
 z229:=Tryz.sizeOf199,
 v229:=Tryz.zeroValue199 }
def lays78_ren:Go.Shelf.Ren:=⟨fun | 25=>126 | 31=>149 | 32=>150 | 37=>47 | n=>n,fun | 22=>77 | 40=>105 | n=>n,fun | n=>n⟩
theorem lays78:Go.Proofs.Lays2.n25 Tryz.prog lays78_ren:={
 mixed:=by kernel_rfl,
 f25:=by first | exact Tryz.func126.trans (congrArg some (by kernel_rfl)) | exact⟨Tryz.f126.name,by kernel_rfl,Tryz.func126.trans (congrArg some (by kernel_rfl))⟩,
 f31:=by first | exact Tryz.func149.trans (congrArg some (by kernel_rfl)) | exact⟨Tryz.f149.name,by kernel_rfl,Tryz.func149.trans (congrArg some (by kernel_rfl))⟩,
 f32:=by first | exact Tryz.func150.trans (congrArg some (by kernel_rfl)) | exact⟨Tryz.f150.name,by kernel_rfl,Tryz.func150.trans (congrArg some (by kernel_rfl))⟩,
 f37:=by first | exact Tryz.func47.trans (congrArg some (by kernel_rfl)) | exact⟨Tryz.f47.name,by kernel_rfl,Tryz.func47.trans (congrArg some (by kernel_rfl))⟩,
 t0:=Tryz.underlying0,
 a0:=Tryz.isAgg0,
 z0:=Tryz.sizeOf0,
 v0:=Tryz.zeroValue0,
 t3:=Tryz.underlying3,
 a3:=Tryz.isAgg3,
 z3:=Tryz.sizeOf3,
 v3:=Tryz.zeroValue3,
 t4:=Tryz.underlying4,
 a4:=Tryz.isAgg4,
 z4:=Tryz.sizeOf4,
 v4:=Tryz.zeroValue4,
 t22:=Tryz.underlying77,
 a22:=Tryz.isAgg77,
 z22:=Tryz.sizeOf77,
 v22:=Tryz.zeroValue77,
 t40:=Tryz.underlying105,
 a40:=Tryz.isAgg105,
 z40:=Tryz.sizeOf105,
 v40:=Tryz.zeroValue105 }
theorem heapI_put (w:World) (blk off:Nat) (F:Array Int) (j:Nat):(putRow (Value.int .i64) w blk off F).heap[j]? = if blk=j then (w.heap[j]?).map (onCells (putCells (Value.int .i64) off F)) else w.heap[j]? := by
 simp[putRow,mapBlock,Array.getElem?_modify]
theorem putI_len (off:Nat) (F:Array Int) (c:Array Value):(putCells (Value.int .i64) off F c).size=c.size:=by simp[putCells]
theorem putI_take (off:Nat) (l:List Int) (c:Array Value) (h:off+l.length≤c.size):((putCells (Value.int .i64) off l.toArray c).toList.drop off).take l.length=isV l:=by
 apply List.ext_getElem?
 intro j
 rw[List.getElem?_take]
 by_cases hj:j < l.length
 ·rw[if_pos hj,List.getElem?_drop,Array.getElem?_toList]
  simp only[putCells,Array.getElem?_mapIdx]
  rw[Array.getElem?_eq_getElem (by omega),Option.map_some,if_pos (by simp only[List.size_toArray]; omega)]
  unfold isV
  rw[List.getElem?_map,List.getElem?_eq_getElem hj]
  have e:off+j - off=j:=by omega
  rw[e]
  have h2:(l.toArray)[j]! = l[j]:=by rw[getElem!_pos l.toArray j (by simpa using hj)]; simp
  rw[h2]; rfl
 ·rw[if_neg hj,List.getElem?_eq_none (by rw[zj68]; omega)]
theorem sort68 {E:Env} {H:List SO} {W:World} {i ver:Nat} {A:Option Addr} {c:Nat} {fs:List Int} (hW:HeapOk E H W) (hi:nth H i=some (.own 3 ver 1 A fs.length c (isV fs))) (hn:fs.length≤1000000000) :
  CallsV Tryz.prog 106 [.slice A fs.length c] W fun v W'=>v=.tuple #[]∧HeapOk E (setn H i (.own 3 ver 1 A fs.length c (isV (srtI fs)))) W':=by
 have hlen:(srtI fs).length=fs.length:=List.length_mergeSort _
 have hext:HExt H (setn H i (.own 3 ver 1 A fs.length c (isV (srtI fs)))):=HExt.setOwn hi (Nat.le_refl _) fun _=>⟨rfl,rfl,rfl⟩
 have he0:=hW.ents i _ hi
 obtain⟨hl,⟨h1,h2,h3⟩ | ⟨g,b,cur,rfl,hg,h1,h2,h3,h4⟩⟩:=he0
 ·have h0:fs=[]:=List.length_eq_zero_iff.1 h1
  subst h0
  have h:=Any.slices_Sort_int_none lays68 A c W
  change Calls Tryz.prog 106 _ _ _ at h
  refine Calls.mono h ?_
  rintro e w' ⟨rfl,rfl⟩
  refine⟨rfl,hW.set hi hext (fun g hg=>.inl hg) (fun _ _ _=>rfl) (Nat.le_refl _) rfl rfl rfl ?_⟩
  have h9:srtI []=[]:=by simp[srtI]
  rw[h9]
  exact EntryOk.mono (by rw[h9] at hext; exact hext) (fun _ _=>rfl) (hW.ents i _ hi)
 ·have hgl:g < W.heap.size:=by
   rcases Nat.lt_or_ge g W.heap.size with h | h
   ·exact h
   ·simp only at hg
    rw[Array.getElem?_eq_none h] at hg
    cases hg
  have hcell:∀ j v,(isV fs)[j]? = some v→cur[b+j]? = some v:=by
   intro j v hj
   rw[← h4,List.getElem?_take] at hj
   split at hj
   ·rw[List.getElem?_drop] at hj
    simpa using hj
   ·cases hj
  have hH:Holds (Value.int .i64) W g b fs.toArray:=by
   intro j hj
   have hj':j < fs.length:=by simpa using hj
   have hv:(isV fs)[j]? = some (.int .i64 (fs.toArray)[j]!):=by
    rw[getElem!_pos fs.toArray j hj]
    unfold isV
    rw[List.getElem?_map,List.getElem?_eq_getElem hj']
    simp
   refine⟨?_,?_⟩
   ·simp only[World.cell?]
    simp only at hg
    rw[hg]
    simpa using hcell j _ hv
   ·simp only[World.frozen?]
    simp only at hg
    rw[hg]
    simp
  have h:=Any.slices_Sort_int lays68 g b c fs W hH hgl (by omega)
  change Calls Tryz.prog 106 _ _ _ at h
  refine Calls.mono h ?_
  rintro e w' ⟨rfl,n,os,rfl⟩
  change _∧HeapOk E _ (grow (putRow (Value.int .i64) (Go.Sort.ahead W n) g b (srtI fs).toArray) os)
  have hheap:∀ j,j < W.heap.size→(grow (putRow (Value.int .i64) (Go.Sort.ahead W n) g b (srtI fs).toArray) os).heap[j]? = if g=j then (W.heap[j]?).map (onCells (putCells (Value.int .i64) b (srtI fs).toArray)) else W.heap[j]? := by
   intro j hj
   show ((putRow (Value.int .i64) (Go.Sort.ahead W n) g b (srtI fs).toArray).heap++os)[j]? = _
   rw[Array.getElem?_append_left (by rw[size_putRow]; exact hj),heapI_put]
   rfl
  have hsz:W.heap.size≤(grow (putRow (Value.int .i64) (Go.Sort.ahead W n) g b (srtI fs).toArray) os).heap.size:=by
   show _≤((putRow (Value.int .i64) (Go.Sort.ahead W n) g b (srtI fs).toArray).heap++os).size
   rw[Array.size_append,size_putRow]; exact Nat.le_add_right _ _
  refine⟨rfl,hW.set hi hext (fun g' hg'=>.inl hg') (fun j hj hlt=>?_) hsz rfl rfl rfl ?_⟩
  ·rw[hheap j hlt,if_neg (fun e=>hj (by rw[← e]; rfl))]
  ·refine⟨by rw[zj68,hlen,Nat.mul_one],.inr ⟨g,b,putCells (Value.int .i64) b (srtI fs).toArray cur,rfl,?_,h1,h2,by rw[putI_len]; exact h3,?_⟩⟩
   ·simp only at hg
    show (grow (putRow (Value.int .i64) (Go.Sort.ahead W n) g b (srtI fs).toArray) os).heap[g]? = _
    rw[hheap g hgl,if_pos rfl,hg]
    rfl
   ·have:=putI_take b (srtI fs) cur (by rw[hlen,← h3]; omega)
    rw[hlen] at this
    rw[Nat.mul_one]; exact this
theorem search78 {E:Env} {H:List SO} {W:World} {i ver:Nat} {A:Option Addr} {c:Nat} {zs:List Int} (hW:HeapOk E H W) (hi:nth H i=some (.own 3 ver 1 A zs.length c (isV zs))) (hn:zs.length≤1000000000) (h0:0 < zs.length) (hs:zs.Pairwise (·≤·)) (x:Int) :
  CallsV Tryz.prog 126 [.slice A zs.length c,.int .i64 x] W fun v W'=>v=.tuple #[.int .i64 (posI zs x),.bool (zs.contains x)]∧Fresh W W':=by
 have he0:=hW.ents i _ hi
 obtain⟨hl,⟨h1,h2,h3⟩ | ⟨g,b,cur,rfl,hg,h1,h2,h3,h4⟩⟩:=he0
 ·omega
 have hc:∀ j,j < zs.length→W.cell? ⟨g,b+j,none⟩=some (.int .i64 (zs.getD j 0)):=by
  intro j hj
  have hv:(isV zs)[j]? = some (.int .i64 (zs.getD j 0)):=by
   unfold isV
   rw[List.getElem?_map,List.getElem?_eq_getElem hj,List.getD_eq_getElem?_getD,List.getElem?_eq_getElem hj]; rfl
  rw[← h4,List.getElem?_take,if_pos (by omega),List.getElem?_drop] at hv
  simp only[World.cell?]
  simp only at hg
  rw[hg]
  simpa using hv
 have h:=Any.slices_BinarySearch_int lays78 g b zs.length c zs x W (Nat.le_refl _) (by omega) hc (by rw[List.take_length]; exact hs)
 change Calls Tryz.prog 126 _ _ _ at h
 refine Calls.mono h ?_
 rintro e w' ⟨rfl,q,rfl⟩
 rw[List.take_length]
 exact⟨rfl,⟨rfl,rfl,rfl,Nat.le_refl _,fun _ _=>rfl⟩⟩
end Go.Proofs.YtgghmmjoplddbaaGreatDoor
namespace Go.Proofs.YtgghmmjoplddbaaGreatDoor
open Go Go.Sx Go.Isa
set_option maxRecDepth 100000
theorem zj48 (op:Int) (w:World):CallsV Tryz.prog 125 [.int .i64 op] w fun v w'=>v=.bool (brB op)∧Fresh w w':=by
 refine zj03 (keep:=K125) (nt:=9) (svs:=[.val (.int .i64 op)]) Tryz.func125 x125 n125 (by simp) (by simp[IsL,Is]) fun R hR=>?_
 (refine Y_go 600 ?_; dsimp only[go_sem,Nat.reduceAdd,Nat.reduceBEq])
 refine⟨fun h=>zj01 (vs:=[.bool (decide (op≤16))]) r125 rfl rfl fun W hW=>hR _ _ ⟨?_,hW.fresh'⟩,fun h=>zj01 (vs:=[.bool false]) r125 rfl rfl fun W hW=>hR _ _ ⟨?_,hW.fresh'⟩⟩
 ·unfold brB; rw[show decide (13≤op)=true from h]; rfl
 ·unfold brB; rw[show decide (13≤op)=false from h]; rfl
theorem ends79 (x:In) (w:World) (hG:ShAt w):CallsV Tryz.prog 122 [In.val x] w fun v w'=>v=.bool (endsB x)∧Fresh w w':=by
 refine zj03 (keep:=K122) (nt:=16) (svs:=[.agg (In.sv x)]) Tryz.func122 x122 n122 (by simp) (by simp only[IsL]; exact⟨_,_,In.is _ x,rfl,rfl⟩) fun R hR=>?_
 (refine Y_go 600 ?_; dsimp only[go_sem,In.sv,Nat.reduceAdd,Nat.reduceBEq])
 intro g
 cases hb:legalB x with
 | false =>
  refine zj00 (vs:=[In.val x]) rfl (fun W hW=>zj19 x W (hG.keep hW.fresh')) fun v hv=>⟨.bf,by rw[hv,hb]; simp[Is],?_⟩
  (refine Y_go 600 ?_; dsimp only[go_sem,Nat.reduceBEq])
  exact zj01 (vs:=[.bool true]) r122 rfl rfl fun W hW=>hR _ _ ⟨by unfold endsB; rw[hb]; rfl,hW.fresh'⟩
 | true =>
  refine zj00 (vs:=[In.val x]) rfl (fun W hW=>zj19 x W (hG.keep hW.fresh')) fun v hv=>⟨.bt,by rw[hv,hb]; simp[Is],?_⟩
  (refine Y_go 600 ?_; dsimp only[go_sem,Nat.reduceBEq,Nat.reduceAdd])
  refine⟨fun h=>zj01 (vs:=[.bool true]) r122 rfl rfl fun W hW=>hR _ _ ⟨by unfold endsB; rw[hb,h]; rfl,hW.fresh'⟩,fun h=>?_⟩
  refine zj00 (vs:=[.int .i64 x.op]) rfl (fun W hW=>zj48 x.op W) fun v hv=>⟨.val (.bool (brB x.op)),by rw[hv]; simp[Is],?_⟩
  (refine Y_go 600 ?_; dsimp only[go_sem,Nat.reduceBEq])
  exact zj01 (vs:=[.bool (brB x.op)]) r122 rfl rfl fun W hW=>hR _ _ ⟨by unfold endsB; rw[hb,h]; rfl,hW.fresh'⟩
theorem find47 {E:Env} {H:List SO} {W:World} {i ver:Nat} {A:Option Addr} {c:Nat} {zs:List Int} (hW:HeapOk E H W) (hi:nth H i=some (.own 3 ver 1 A zs.length c (isV zs))) (hn:zs.length≤1000000000) (h0:0 < zs.length) (hs:zs.Pairwise (·≤·)) (x:Int) :
  CallsV Tryz.prog 105 [.slice A zs.length c,.int .i64 x] W fun v W'=>v=.int .i64 (posI zs x)∧Fresh W W':=by
 refine zj03 (keep:=K105) (nt:=14) (svs:=[.val (.slice A zs.length c),.val (.int .i64 x)]) Tryz.func105 x105 n105 (by simp) (by simp[IsL,Is]) fun R hR=>?_
 (refine Y_go 600 ?_; dsimp only[go_sem,Nat.reduceAdd,Nat.reduceBEq])
 refine zj00 (vs:=[.slice A zs.length c,.int .i64 x]) rfl (fun W2 hW2=>search78 (hW.freshK hW2.fresh') hi hn h0 hs x) fun v hv=>⟨.tup [.val (.int .i64 (posI zs x)),.val (.bool (zs.contains x))],by rw[hv]; simp[Is,IsL],?_⟩
 (refine Y_go 600 ?_; dsimp only[go_sem,Nat.reduceBEq])
 exact zj01 (vs:=[.int .i64 (posI zs x)]) r105 rfl rfl fun W2 hW2=>hR _ _ ⟨rfl,hW2.fresh'⟩
end Go.Proofs.YtgghmmjoplddbaaGreatDoor
