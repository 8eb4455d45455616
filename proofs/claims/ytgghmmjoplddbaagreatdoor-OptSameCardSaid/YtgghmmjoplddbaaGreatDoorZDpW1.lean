/- The document's drop. -/
import Derived.Test.YtgghmmjoplddbaaGreatDoorZBgCodeDrop
import Derived.Test.YtgghmmjoplddbaaGreatDoorZLpCmp
import Derived.Test.YtgghmmjoplddbaaGreatDoorZBgOne
set_option linter.unusedSimpArgs false
set_option linter.unusedVariables false
set_option linter.unnecessarySimpa false
namespace Go.Proofs.YtgghmmjoplddbaaGreatDoor
open Go Go.Sx Go.Isa
set_option maxRecDepth 100000
def bV (o:List Bool):List Value:=o.map Value.bool
theorem bV_get {o:List Bool} {j:Nat} (h:j < o.length):(bV o)[j]? = some (.bool (o.getD j false)):=by
 unfold bV
 rw[List.getElem?_map,List.getElem?_eq_getElem h]
 simp[List.getD,List.getElem?_eq_getElem h]
theorem bV_len (o:List Bool):(bV o).length=o.length:=by simp[bV]
def gB (g:List Bool) (i:Nat):Bool:=g.getD i false
structure D94 where
 i:Nat
 A:Option Addr
 c:Nat
theorem zj4r {g g':Nat→Bool}:∀ n,(∀ k,k < n→g k=g' k)→leftN g n=leftN g' n
 | 0,_=>rfl
 | n+1,h=>by simp only[leftN,zj4r n (fun k hk=>h k (by omega)),h n (by omega)]
theorem adjI_congr {g g':Nat→Bool} {n:Nat} (h:∀ k,k < n→g k=g' k) (x:In):adjI g n x=adjI g' n x:=by
 unfold adjI
 split
 ·rename_i hx
  have h0:=zj1r hx.1
  rw[zj4r _ fun k hk=>h k (by omega)]
 ·rfl
theorem zj4b {g g':Nat→Bool} {l:List In} (h:∀ k,k < l.length→g k=g' k):∀ i,i≤l.length→dropTo g l i=dropTo g' l i
 | 0,_=>rfl
 | i+1,hi=>by
  have hx:l[i]? = some (l[i]'(by omega)):=List.getElem?_eq_getElem (by omega)
  simp only[dropTo,zj4b h i (by omega),hx,h i (by omega),adjI_congr h]
theorem dropP_congr {g g':Nat→Bool} {l:List In} (h:∀ k,k < l.length→g k=g' k):dropP g l=dropP g' l:=zj4b h _ (Nat.le_refl _)
def gl (f:Nat→Bool) (n i:Nat):List Bool:=(List.range n).map fun k=>decide (k < i) && f k
theorem gl_zero (f:Nat→Bool) (n:Nat):repN n [Value.bool false]=bV (gl f n 0):=by
 have:gl f n 0=List.replicate n false:=by
  refine List.ext_getElem (by simp[gl]) fun i h1 h2=>?_
  simp[gl]
 rw[this,bV,List.map_replicate]
 clear this
 induction n with
 | zero=>rfl
 | succ n ih=>simp only[repN,List.replicate_succ,ih]; rfl
theorem bV_set {o:List Bool} {j:Nat} {b:Bool}:setn (bV o) j (.bool b)=bV (o.set j b):=by
 rw[zj0k]; unfold bV; rw[List.map_set]
structure S63 where
 r:Nat
 m:List In
 A:Option Addr
 c:Nat
open Go.Lint
theorem bad8 {l:List In} {p:Int}:BadP l 8 p ↔ 0≤p∧p < l.length∧¬ Go.Lint.Reach l (p,false)∧¬ Go.Lint.Reach l (p,true):=by
 constructor
 ·rintro (⟨s,x,_,_,_,h⟩ | ⟨h,_⟩ | h)
  ·exfalso
   rcases h with⟨h,_⟩ | ⟨_,h | ⟨h,_⟩⟩
   ·omega
   ·unfold fnd at h
    repeat' split at h
    all_goals simp at h
   ·omega
  ·omega
  ·exact h.2
 ·exact fun h=>.inr (.inr ⟨rfl,h⟩)
theorem found8 {l:List In} {fs:List (Int × Int)} (hf:FoundOk l fs) {k:Nat} (hk:k < l.length):decide ((8,(k:Int)) ∈ fs)=neverB l k:=by
 unfold neverB
 rw[decide_eq_decide,hf.mem,bad8]
 exact⟨fun h=>h.2.2,fun h=>⟨by omega,by omega,h⟩⟩
def ng (fs:List (Int × Int)) (n i:Nat):List Bool:=(List.range n).map fun k:Nat=>decide ((8,(k:Int)) ∈ fs.take i)
theorem ng_len (fs:List (Int × Int)) (n i:Nat):(ng fs n i).length=n:=by simp[ng]
theorem ng_zero (fs:List (Int × Int)) (n:Nat):repN n [Value.bool false]=bV (ng fs n 0):=by
 rw[gl_zero (fun _=>false) n]
 simp[gl,ng]
theorem ng_same {fs:List (Int × Int)} {n i:Nat} {c p:Int} (hx:fs[i]? = some (c,p)) (hc:c ≠ 8):ng fs n (i+1)=ng fs n i:=by
 unfold ng
 refine List.map_congr_left fun k _=>?_
 rw[List.take_add_one,hx,decide_eq_decide]
 simp
 omega
theorem ng_set {fs:List (Int × Int)} {n i:Nat} {p:Int} (hx:fs[i]? = some (8,p)) (h0:0≤p):setn (bV (ng fs n i)) p.toNat (.bool true)=bV (ng fs n (i+1)):=by
 rw[bV_set]
 congr 1
 refine List.ext_getElem (by simp[ng]) fun k h1 h2=>?_
 rw[List.getElem_set]
 simp only[ng,List.getElem_map,List.getElem_range]
 rw[List.take_add_one,hx]
 split
 ·rename_i e; subst e
  simp
  omega
 ·rename_i e
  rw[decide_eq_decide]
  simp
  omega
theorem drop_ng {l:List In} {fs:List (Int × Int)} (hf:FoundOk l fs):dropP (gB (ng fs l.length fs.length)) l=trimL l :=
 dropP_congr fun k hk=>by
  rw[← found8 hf hk]
  simp[gB,ng,List.getD,hk]
end Go.Proofs.YtgghmmjoplddbaaGreatDoor
namespace Go.Proofs.YtgghmmjoplddbaaGreatDoor
open Go Go.Sx Go.Isa
open Nat (reduceAdd reduceLT)
set_option maxRecDepth 100000
theorem gone86 (i:Nat) (l:List In) (A:Option Addr) (c:Nat) (P:Option Addr) (w:World) (hG:ShAt w) (hP:RowAt w P [.slice A l.length c]) (hA:RowAt w A (cellsI l)) (hi:i < l.length) (hl:l.length≤2000) :
  CallsV Tryz.prog 63 [.int .i64 (i:Int),.pointer P] w fun v w'=>v=.bool (skipB l i)∧Fresh w w':=by
 refine zj03 (keep:=K63) (nt:=25) (svs:=[.val (.int .i64 (i:Int)),.adr P 0]) Tryz.func63 x63 n63 (by simp) (by simp[IsL,Is]; cases P <;> simp[Addr.add]) fun R hR=>?_
 (refine Y_go 600 ?_; dsimp only[go_sem,reduceAdd,Nat.reduceBEq])
 have hi1:((i:Nat):Int).toNat=i:=by omega
 refine⟨A,l.length,c,hP.cell rfl,⟨by omega,by omega,someI hA hi⟩,?_⟩
 rw[hi1]
 refine⟨_,cellI hA hi (k:=0) rfl,_,cellI hA hi (k:=1) rfl,_,cellI hA hi (k:=2) rfl,_,cellI hA hi (k:=3) rfl,_,cellI hA hi (k:=4) rfl,?_⟩
 have hx:l[i]? = some l[i]:=List.getElem?_eq_getElem hi
 have c4:=cellI (nt:=25) hA hi (k:=4) rfl
 generalize l[i]=x at hx c4
 have hsk:skipB l i=decide (goK x=1∧x.imm=(i:Int)+1):=by unfold skipB; rw[hx]
 refine zj00 (vs:=[In.val x]) rfl (fun W hW=>goes84 x W (hG.keep hW.fresh')) fun v hv=>⟨.tup [.val (.bool (goK x == 1)),.val (.bool (goK x == 2))],by rw[hv]; simp[Is,IsL],?_⟩
 (refine Y_go 600 ?_; dsimp only[go_sem,Nat.reduceBEq,reduceAdd])
 rw[hi1]
 refine⟨fun h1=>⟨A,l.length,c,hP.cell rfl,⟨by omega,by omega,someI hA hi⟩,someI hA hi,x.imm,c4,((i:Int)+1),.add64 (by omega) (by omega),zj01 (vs:=[_]) r63 rfl rfl fun W hW=>hR _ _ ⟨?_,hW.fresh'⟩⟩,fun h1=>zj01 (vs:=[_]) r63 rfl rfl fun W hW=>hR _ _ ⟨?_,hW.fresh'⟩⟩
 ·have h1:goK x=1:=by simpa using h1
  rw[hsk]
  have:(x.imm == (i:Int)+1)=decide (goK x=1∧x.imm=(i:Int)+1):=by rw[Bool.eq_iff_iff]; simp[h1]
  rw[← this]; rfl
 ·have h1:goK x ≠ 1:=by simpa using h1
  rw[hsk]
  have:decide (goK x=1∧x.imm=(i:Int)+1)=false:=by simp[h1]
  rw[this]; rfl
theorem gone87 (i:Nat) (g:List Bool) (A:Option Addr) (c:Nat) (P:Option Addr) (w:World) (hP:RowAt w P [.slice A g.length c]) (hA:RowAt w A (bV g)) (hi:i < g.length) (hl:g.length≤2000) :
  CallsV Tryz.prog 64 [.int .i64 (i:Int),.pointer P] w fun v w'=>v=.bool (gB g i)∧Fresh w w':=by
 refine zj03 (keep:=K64) (nt:=8) (svs:=[.val (.int .i64 (i:Int)),.adr P 0]) Tryz.func64 x64 n64 (by simp) (by simp[IsL,Is]; cases P <;> simp[Addr.add]) fun R hR=>?_
 (refine Y_go 600 ?_; dsimp only[go_sem,reduceAdd,Nat.reduceBEq])
 have hi1:((i:Nat):Int).toNat=i:=by omega
 refine⟨A,g.length,c,hP.cell rfl,⟨by omega,by omega,hA.isSome (j:=i) (by rw[bV_len]; exact hi)⟩,gB g i,hA.cell (by rw[hi1,Nat.mul_one]; exact bV_get hi),?_⟩
 exact zj01 (vs:=[_]) r64 rfl rfl fun W hW=>hR _ _ ⟨rfl,hW.fresh'⟩
structure D85 where
 i:Nat
 A:Option Addr
 c:Nat
def lfL (gone:Nat→Bool) (n i:Nat):List Int:=(List.range (n+1)).map fun k:Nat=>if k≤i then (leftN gone k:Int) else 0
theorem lfL_len (gone:Nat→Bool) (n i:Nat):(intsV (lfL gone n i)).length=n+1:=by simp[intsV,lfL]
theorem lfL_get {gone:Nat→Bool} {n i k:Nat} (hk:k≤i) (hn:k≤n):(intsV (lfL gone n i))[k]? = some (.int .i64 (leftN gone k:Nat)):=by
 simp[intsV,lfL,show k < n+1 by omega,hk]
theorem lfL_zero (gone:Nat→Bool) (n:Nat):repN (n+1) [Value.int .i64 0]=intsV (lfL gone n 0):=by
 have:lfL gone n 0=List.replicate (n+1) 0:=by
  refine List.ext_getElem (by simp[lfL]) fun i h1 h2=>?_
  simp only[lfL,List.getElem_map,List.getElem_range,List.getElem_replicate]
  split
  ·rename_i h; obtain rfl:i=0:=by omega
   rfl
  ·rfl
 rw[this,intsV,List.map_replicate]
 clear this
 generalize n+1=m
 induction m with
 | zero=>rfl
 | succ n ih=>simp only[repN,List.replicate_succ,ih]; rfl
theorem lfL_set {gone:Nat→Bool} {n i:Nat} (hi:i < n):setn (intsV (lfL gone n i)) (i+1) (.int .i64 (leftN gone (i+1):Nat))=intsV (lfL gone n (i+1)):=by
 rw[zj0k,intsV,← List.map_set]
 unfold intsV
 congr 1
 refine List.ext_getElem (by simp[lfL]) fun k h1 h2=>?_
 rw[List.getElem_set]
 simp only[lfL,List.getElem_map,List.getElem_range]
 split
 ·rename_i e; subst e; simp
 ·rename_i e
  by_cases hk:k≤i
  ·rw[if_pos hk,if_pos (by omega)]
  ·rw[if_neg hk,if_neg (by omega)]
theorem setn_twice (l:List Value) (i:Nat) (a b:Value):setn (setn l i a) i b=setn l i b:=by
 rw[zj0k,zj0k,zj0k,List.set_set]
theorem setn_get {l:List Value} {i:Nat} (h:i < l.length) (a:Value):(setn l i a)[i]? = some a:=by
 rw[zj0k,List.getElem?_set]; simp[h]
theorem drop85 (A:Option Addr) (c:Nat) (l:List In) (f:FuncId) (caps:List Value) (gone:Nat→Bool) (w:World) (hG:ShAt w) (hA:RowAt w A (cellsI l)) (hl:l.length≤2000) (hok:fnOk Tryz.prog f=true)
  (hf:∀ W,Fresh w W→∀ i,i < l.length→CallsV Tryz.prog f ([.int .i64 (i:Int)]++caps) W fun v W'=>v=.bool (gone i)∧Fresh W W') :
  CallsV Tryz.prog 62 [.slice A l.length c,.func (.func f) #[] caps.toArray] w fun v w'=>World.ownsB w' w.heap.size 47 5 v (dropP gone l).length (cellsI (dropP gone l))∧Fresh w w':=by
 refine zj03 (keep:=K62) (nt:=79) (svs:=[.val (.slice A l.length c),.val (.func (.func f) #[] caps.toArray)]) Tryz.func62 x62 n62 (by simp) (by simp[IsL,Is]) fun R hR=>?_
 (refine Y_go 600 ?_; dsimp only[go_sem,reduceAdd,Nat.reduceBEq])
 refine⟨((l.length+1:Nat):Int),ArOk.to (by omega) (by omega) (by omega),⟨by omega,by omega,by omega,by omega⟩,fun g=>?_⟩
 have hn1:((l.length+1:Nat):Int).toNat=l.length+1:=by omega
 rw[hn1,lfL_zero gone]
 refine zj08 (α:=Nat) (fun i=>i≤l.length) (fun _=>⟨w,w.heap.size,[],79,[]⟩) (fun i=>{ F:=[(0,.val (.slice A l.length c)),(1,.val (.func (.func f) #[] caps.toArray)),(4,.val (.slice none 0 0)),(5,.own 0 0),(17,.val (.int .i64 l.length)),(18,.val (.int .i64 (i:Int)))],H:=[.own 3 0 1 (some ⟨g,0,none⟩) (l.length+1) (l.length+1) (intsV (lfL gone l.length i))] }) (fun i=>l.length - i) (fun _=>rfl) ?start ?round
 case start =>
  intro a W rep
  exact⟨0,Nat.zero_le _,rep.lq⟩
 case round =>
  intro i hi I again
  have hi:i≤l.length:=hi
  have hll:=lfL_len gone l.length i
  (refine Y_go 600 ?_; dsimp only[go_sem,Nat.reduceBEq])
  refine⟨fun hlt=>?_,fun hge=>?_⟩
  ·have hlt:i < l.length:=by have:=of_decide_eq_true hlt; omega
   have hi1:((i:Nat):Int).toNat=i:=by omega
   have hi2:((i:Int)+1).toNat=i+1:=by omega
   have hle:=zj1v gone i
   have hle1:=zj1v gone (i+1)
   refine⟨_,.add64 (by omega) (by omega),⟨by omega,by omega⟩,((leftN gone i:Nat):Int),by rw[hi1,Nat.mul_one]; exact lfL_get (Nat.le_refl _) hi,⟨by omega,by omega⟩,by rw[hi2]; omega,?_⟩
   refine zj07 (f:=f) (fst:=[]) (caps:=caps) (vs:=[.int .i64 (i:Int)]) rfl hok rfl (R:=fun v=>v=.bool (gone i)) (fun W hW=>hf W hW.fresh' i hlt) fun v hv=>⟨.val (.bool (gone i)),by rw[hv]; simp[Is],?_⟩
   (refine Y_go 600 ?_; dsimp only[go_sem,Nat.reduceBEq])
   have hb1:i+1 < (intsV (lfL gone l.length i)).length:=by omega
   have nxt:∀ xs,xs=setn (intsV (lfL gone l.length i)) (i+1) (.int .i64 (leftN gone (i+1):Nat))→∀ F,leF 1 F [(0,.val (.slice A l.length c)),(1,.val (.func (.func f) #[] caps.toArray)),(4,.val (.slice none 0 0)),(5,.own 0 0),(17,.val (.int .i64 l.length)),(18,.val (.int .i64 ((i+1:Nat):Int)))]→G (cxOf Tryz.prog Tryz.f62 K62 T62 R) ⟨w,w.heap.size,[],79,[]⟩ [.lend I,.blk 0,.code (.ref 16)] { F:=F,H:=[.own 3 0 1 (some ⟨g,0,none⟩) (l.length+1) (l.length+1) xs] }:=fun xs hxs F hF =>
    zj02 fun a W rep=>again (i+1) (by show i+1≤_; omega) (by show l.length - (i+1) < l.length - i; omega) a W (rep.le hF (by rw[hxs,lfL_set hlt]; (simp only[go_sem,lk,Nat.reduceBEq,reduceLT,reduceAdd] <;> try simp)))
   rw[hi2,Nat.mul_one]
   refine⟨fun hb=>⟨((i:Int)+1),.add64 (by omega) (by omega),⟨by omega,by omega⟩,((leftN gone i:Nat):Int),by rw[hi2,Nat.mul_one]; exact setn_get hb1 _,((leftN gone (i+1):Nat):Int),ArOk.to ?_ (by omega) (by omega),⟨by omega,by omega⟩,by rw[hi2,zj0k,List.length_set]; omega,((i+1:Nat):Int),ArOk.to (by omega) (by omega) (by omega),nxt _ (by rw[hi2,Nat.mul_one,setn_twice]) _ (by (simp only[go_sem,lk,Nat.reduceBEq,reduceLT,reduceAdd] <;> try simp))⟩,fun hb=>⟨((i+1:Nat):Int),ArOk.to (by omega) (by omega) (by omega),nxt _ ?_ _ (by (simp only[go_sem,lk,Nat.reduceBEq,reduceLT,reduceAdd] <;> try simp))⟩⟩
   ·have:leftN gone (i+1)=leftN gone i+1:=zj6c (by simpa using hb)
    omega
   ·have:leftN gone (i+1)=leftN gone i:=by simp[leftN]; simpa using hb
    rw[this]
  ·have hil:i=l.length:=by have:=of_decide_eq_false hge; omega
   subst hil
   (refine Y_go 600 ?_; dsimp only[go_sem])
   refine zj08 (α:=D85) (fun y=>y.i≤l.length) (fun _=>⟨w,w.heap.size,[],79,[]⟩) (fun y=>{ F:=[(0,.val (.slice A l.length c)),(1,.val (.func (.func f) #[] caps.toArray)),(4,.val (.slice none 0 0)),(5,.own 0 0),(7,.own 1 0),(41,.val (.slice A l.length c)),(42,.val (.int .i64 l.length)),(43,.val (.int .i64 (y.i:Int)))],H:=[.own 3 0 1 (some ⟨g,0,none⟩) (l.length+1) (l.length+1) (intsV (lfL gone l.length l.length)),.own 47 0 5 y.A (dropTo gone l y.i).length y.c (cellsI (dropTo gone l y.i))] }) (fun y=>l.length - y.i) (fun _=>rfl) ?start2 ?round2
   case start2 =>
    intro a W rep
    refine⟨⟨0,none,0⟩,Nat.zero_le _,?_⟩
    have rep1:=(rep.le (s':={ F:=[(0,.val (.slice A l.length c)),(1,.val (.func (.func f) #[] caps.toArray)),(4,.val (.slice none 0 0)),(5,.own 0 0),(7,.val (.slice none 0 0)),(41,.val (.slice A l.length c)),(42,.val (.int .i64 l.length)),(43,.val (.int .i64 0))],H:=[.own 3 0 1 (some ⟨g,0,none⟩) (l.length+1) (l.length+1) (intsV (lfL gone l.length l.length))] }) (by (simp only[go_sem,lk,Nat.reduceBEq,reduceLT,reduceAdd] <;> try simp)) (by (simp only[go_sem,lk,Nat.reduceBEq,reduceLT,reduceAdd] <;> try simp))).adopt 7 47 5 rfl
    exact rep1.le (by (simp only[go_sem,lk,Nat.reduceBEq,reduceLT,reduceAdd] <;> try simp)) (by (simp only[go_sem,lk,Nat.reduceBEq,reduceLT,reduceAdd] <;> try simp); exact⟨rfl,rfl⟩)
   case round2 =>
    rintro ⟨i,A2,c2⟩ hi I2 again2
    have hi:i≤l.length:=hi
    have hdl:=zj2y gone l i hi
    have hle:=zj1v gone i
    (refine Y_go 600 ?_; dsimp only[go_sem,Nat.reduceBEq,reduceAdd])
    refine⟨fun hlt=>?_,fun hge=>?_⟩
    rotate_left
    ·have hil:i=l.length:=by have:=of_decide_eq_false hge; omega
     subst hil
     exact zj01 (vs:=[_]) r62 rfl rfl fun W hW=>hR _ _ ⟨hW.owns (i:=1) rfl,hW.fresh'⟩
    have hlt:i < l.length:=by have:=of_decide_eq_true hlt; omega
    have hi1:((i:Nat):Int).toNat=i:=by omega
    have hx:l[i]? = some l[i]:=List.getElem?_eq_getElem hlt
    rw[hi1]
    refine⟨⟨by omega,by omega,someI hA hlt⟩,_,cellI hA hlt (k:=0) rfl,_,cellI hA hlt (k:=1) rfl,_,cellI hA hlt (k:=2) rfl,_,cellI hA hlt (k:=3) rfl,_,cellI hA hlt (k:=4) rfl,fun gx=>?_⟩
    generalize l[i]=x at hx
    refine zj07 (f:=f) (fst:=[]) (caps:=caps) (vs:=[.int .i64 (i:Int)]) rfl hok rfl (R:=fun v=>v=.bool (gone i)) (fun W hW=>hf W hW.fresh' i hlt) fun v hv=>⟨.val (.bool (gone i)),by rw[hv]; simp[Is],?_⟩
    (refine Y_go 600 ?_; dsimp only[go_sem,Nat.reduceBEq,reduceAdd])
    refine⟨fun hb=>⟨((i+1:Nat):Int),ArOk.to (by omega) (by omega) (by omega),?_⟩,fun hb=>?_⟩
    ·have e:dropTo gone l (i+1)=dropTo gone l i:=by simp[dropTo,hx,hb]
     exact zj02 fun a W rep=>again2 ⟨i+1,A2,c2⟩ (by show i+1≤_; omega) (by show l.length - (i+1) < l.length - i; omega) a W (rep.le (by (simp only[go_sem,lk,Nat.reduceBEq,reduceLT,reduceAdd] <;> try simp)) (by rw[e]; (simp only[go_sem,lk,Nat.reduceBEq,reduceLT,reduceAdd] <;> try simp)))
    have hcap:((dropTo gone l i).length+1≤maxLen∧((dropTo gone l i).length+1)*40≤140737488355328):=⟨by simp only[maxLen]; omega,by omega⟩
    have fin:∀ (y:In) (A3:Option Addr) (c3:Nat) (F:List (Nat × SV)) (H:List SO),adjI gone l.length x=y→leF 2 F [(0,.val (.slice A l.length c)),(1,.val (.func (.func f) #[] caps.toArray)),(4,.val (.slice none 0 0)),(5,.own 0 0),(7,.own 1 1),(41,.val (.slice A l.length c)),(42,.val (.int .i64 l.length)),(43,.val (.int .i64 ((i+1:Nat):Int)))]→leH 2 H [.own 3 0 1 (some ⟨g,0,none⟩) (l.length+1) (l.length+1) (intsV (lfL gone l.length l.length)),.own 47 1 5 A3 ((dropTo gone l i).length+1) c3 (cellsI (dropTo gone l i)++y.cells)]→G (cxOf Tryz.prog Tryz.f62 K62 T62 R) ⟨w,w.heap.size,[],79,[]⟩ [.lend I2,.blk 2,.code (.ref 14)] { F:=F,H:=H }:=by
     intro y A3 c3 F H hy hF hH
     have e:dropTo gone l (i+1)=dropTo gone l i++[y]:=by simp[dropTo,hx,hb,hy]
     refine zj02 fun a W rep=>again2 ⟨i+1,A3,c3⟩ (by show i+1≤_; omega) (by show l.length - (i+1) < l.length - i; omega) a W ((rep.le (s':={ F:=[(0,.val (.slice A l.length c)),(1,.val (.func (.func f) #[] caps.toArray)),(4,.val (.slice none 0 0)),(5,.own 0 0),(7,.own 1 1),(41,.val (.slice A l.length c)),(42,.val (.int .i64 l.length)),(43,.val (.int .i64 ((i+1:Nat):Int)))],H:=[.own 3 0 1 (some ⟨g,0,none⟩) (l.length+1) (l.length+1) (intsV (lfL gone l.length l.length)),.own 47 1 5 A3 ((dropTo gone l i).length+1) c3 (cellsI (dropTo gone l i)++y.cells)] }) hF hH).res.le (by (simp only[go_sem,lk,Nat.reduceBEq,reduceLT,reduceAdd] <;> try simp)) ?_)
     rw[e,zj66,List.length_append]
     (simp only[go_sem,lk,Nat.reduceBEq,reduceLT,reduceAdd] <;> try simp)
     simp[cellsI]
    refine zj00 (vs:=[In.val x]) rfl (fun W hW=>goes84 x W (hG.keep hW.fresh')) fun v hv=>⟨.tup [.val (.bool (goK x == 1)),.val (.bool (goK x == 2))],by rw[hv]; simp[Is,IsL],?_⟩
    (refine Y_go 600 ?_; dsimp only[go_sem,Nat.reduceBEq,reduceAdd,Nat.reduceMul])
    have him:goK x ≠ 0→0≤x.imm∧x.imm≤1024:=zj1r
    have get:goK x ≠ 0→x.imm < l.length→(intsV (lfL gone l.length l.length))[x.imm.toNat*1]? = some (.int .i64 ((leftN gone x.imm.toNat:Nat):Int)):=fun h1 h2=>by
     have:=him h1
     rw[Nat.mul_one]; exact lfL_get (by omega) (by omega)
    have yes:goK x ≠ 0→x.imm < l.length→adjI gone l.length x={ x with imm:=(leftN gone x.imm.toNat:Nat) }:=fun h1 h2=>by unfold adjI; rw[if_pos ⟨h1,h2⟩]
    have no:¬ (goK x ≠ 0∧x.imm < l.length)→adjI gone l.length x=x:=fun h=>by unfold adjI; rw[if_neg h]
    have k01:goK x ≠ 1→goK x ≠ 2→goK x=0:=by
     intro h1 h2
     unfold goK at h1 h2 ⊢
     split
     ·split
      ·simp_all
      ·split
       ·simp_all
       ·rfl
     ·rfl
    refine⟨fun h1=>⟨fun hm=>?_,fun hm=>?_⟩,fun h1=>⟨fun h2=>⟨fun hm=>?_,fun hm=>?_⟩,fun h2=>?_⟩⟩
    ·have h1 : goK x ≠ 0 := by have : goK x = 1 := by simpa using h1
                               rw[this]; decide
     have hm:=of_decide_eq_true hm
     have:=him h1
     exact⟨⟨this.1,by omega⟩,_,get h1 hm,fun g1=>⟨hcap,fun A3 c3=>⟨((i+1:Nat):Int),ArOk.to (by omega) (by omega) (by omega),fin _ A3 c3 _ _ (yes h1 hm) (by (simp only[go_sem,lk,Nat.reduceBEq,reduceLT,reduceAdd] <;> try simp)) (by (simp only[go_sem,lk,Nat.reduceBEq,reduceLT,reduceAdd] <;> try simp); rfl)⟩⟩⟩
    ·have hm:=of_decide_eq_false hm
     exact fun g1=>⟨hcap,fun A3 c3=>⟨((i+1:Nat):Int),ArOk.to (by omega) (by omega) (by omega),fin _ A3 c3 _ _ (no (fun h=>hm h.2)) (by (simp only[go_sem,lk,Nat.reduceBEq,reduceLT,reduceAdd] <;> try simp)) (by (simp only[go_sem,lk,Nat.reduceBEq,reduceLT,reduceAdd] <;> try simp); rfl)⟩⟩
    ·have h1 : goK x ≠ 0 := by have : goK x = 2 := by simpa using h2
                               rw[this]; decide
     have hm:=of_decide_eq_true hm
     have:=him h1
     exact⟨⟨this.1,by omega⟩,_,get h1 hm,fun g1=>⟨hcap,fun A3 c3=>⟨((i+1:Nat):Int),ArOk.to (by omega) (by omega) (by omega),fin _ A3 c3 _ _ (yes h1 hm) (by (simp only[go_sem,lk,Nat.reduceBEq,reduceLT,reduceAdd] <;> try simp)) (by (simp only[go_sem,lk,Nat.reduceBEq,reduceLT,reduceAdd] <;> try simp); rfl)⟩⟩⟩
    ·have hm:=of_decide_eq_false hm
     exact fun g1=>⟨hcap,fun A3 c3=>⟨((i+1:Nat):Int),ArOk.to (by omega) (by omega) (by omega),fin _ A3 c3 _ _ (no (fun h=>hm h.2)) (by (simp only[go_sem,lk,Nat.reduceBEq,reduceLT,reduceAdd] <;> try simp)) (by (simp only[go_sem,lk,Nat.reduceBEq,reduceLT,reduceAdd] <;> try simp); rfl)⟩⟩
    ·have h0:goK x=0:=k01 (by simpa using h1) (by simpa using h2)
     exact fun g1=>⟨hcap,fun A3 c3=>⟨((i+1:Nat):Int),ArOk.to (by omega) (by omega) (by omega),fin _ A3 c3 _ _ (no (fun h=>h.1 h0)) (by (simp only[go_sem,lk,Nat.reduceBEq,reduceLT,reduceAdd] <;> try simp)) (by (simp only[go_sem,lk,Nat.reduceBEq,reduceLT,reduceAdd] <;> try simp); rfl)⟩⟩
structure S57 where
 m:List In
 A:Option Addr
 c:Nat
theorem ok86:fnOk Tryz.prog 63=true:=by kernel_rfl
theorem ok87:fnOk Tryz.prog 64=true:=by kernel_rfl
theorem skip57 (l:List In) (hl:l.length≤2000):PassOk 37 [] l (ansP skipL l):=by
 intro A c w hG hA
 refine zj03 (keep:=K37) (nt:=21) (svs:=[.val (.slice A l.length c)]) Tryz.func37 x37 n37 (by simp) (by simp[IsL,Is]) fun R hR=>?_
 (refine Y_go 600 ?_; dsimp only[go_sem,Nat.reduceAdd,Nat.reduceBEq])
 refine⟨fun h=>?_,fun h=>?_⟩
 ·have h:=of_decide_eq_true h
  have h:1024 < l.length:=by omega
  exact zj01 (vs:=[_,_]) r37 rfl rfl fun W hW=>hR _ _ ⟨hW.fresh',_,by rw[zj4q h]; rfl,by rw[zj6l h]; exact zj1b _ _ _ _⟩
 have h1024:l.length≤1024:=by have:=of_decide_eq_false h; omega
 refine zj1d (vs:=[.slice A l.length c]) rfl (fun W hW=>clone82 A c l W (hA.keep hW.fresh') (by omega)) fun A1 c1=>?_
 (refine Y_go 600 ?_; dsimp only[go_sem,Nat.reduceAdd,Nat.reduceBEq])
 intro g
 refine zj08 (α:=S57) (fun y=>y.m.length≤l.length∧skipL y.m=skipL l) (fun _=>⟨w,w.heap.size,[],21,[]⟩) (fun y=>{ F:=[(0,.val (.slice A l.length c)),(4,.ptr 1 0)],H:=[.own 47 0 5 y.A y.m.length y.c (cellsI y.m),.cells g 22 [.own 0 0]] }) (fun y=>y.m.length) (fun _=>rfl) ?start ?round
 case start =>
  intro a W rep
  exact⟨⟨l,A1,c1⟩,⟨Nat.le_refl _,rfl⟩,rep.lq⟩
 case round =>
  rintro ⟨m,A2,c2⟩ ⟨hml,hsk⟩ I again
  have hml:m.length≤l.length:=hml
  have hsk:skipL m=skipL l:=hsk
  have hle:=zj23 m
  (refine Y_go 600 ?_; dsimp only[go_sem,Nat.reduceBEq,Nat.reduceAdd])
  refine zj1d (vs:=[.slice A2 m.length c2,.func (.func 63) #[] [Value.pointer (some ⟨g,0,none⟩)].toArray]) rfl (fun W hW=>drop85 A2 c2 m 63 [.pointer (some ⟨g,0,none⟩)] (skipB m) W (hG.keep hW.fresh') (hW.rowAt (i:=0) rfl) (by omega) ok86 (fun W' hk i hi =>
   gone86 i m A2 c2 (some ⟨g,0,none⟩) W' ((hG.keep hW.fresh').keep hk) ((hW.cellsAt (i:=1) rfl rfl).keep hk) ((hW.rowAt (i:=0) rfl).keep hk) hi (by omega))) fun A3 c3=>?_
  (refine Y_go 600 ?_; dsimp only[go_sem,Nat.reduceAdd,Nat.reduceBEq])
  have e1:dropP (skipB m) m=skip1 m:=rfl
  rw[e1]
  refine⟨fun h=>?_,fun h=>?_⟩
  ·have h : (skip1 m).length = m.length := by have : ((skip1 m).length : Int) = m.length := by simpa using h
                                              omega
   have e2:skip1 m=skipL l:=by rw[← hsk,skipL_fix h]; exact zj22 h
   refine zj01 (vs:=[_,_]) r37 rfl rfl fun W hW=>hR _ _ ⟨hW.fresh',_,by rw[zj2d h1024]; rfl,?_⟩
   rw[zj25 h1024,← e2]
   exact hW.owns (i:=2) rfl
  ·have h:(skip1 m).length ≠ m.length:=by intro e; simp[e] at h
   exact zj02 fun a W rep=>again ⟨skip1 m,A3,c3⟩ ⟨by show (skip1 m).length≤_; omega,(skipL_step m).trans hsk⟩ (by show (skip1 m).length < m.length; omega) a W ((rep.pick [2,1] (by decide)).lp)
open Go.Lint
theorem owns_le {w:World} {N:Nat} {t:TypeId} {sz n:Nat} {v:Value} {xs:List Value} (ho:World.ownsB w N t sz v n xs):n≤maxLen:=by
 obtain⟨_,⟨_,_,h0,_⟩ | ⟨g,b,cap,cur,_,_,_,h1,h2,_⟩⟩:=ho
 ·rw[h0]; exact Nat.zero_le _
 ·exact Nat.le_trans h1 h2
theorem trim58 (l:List In) (hl:l.length≤2000):PassOk 38 [] l (ansP trimL l):=by
 intro A c w hG hA
 refine zj03 (keep:=K38) (nt:=37) (svs:=[.val (.slice A l.length c)]) Tryz.func38 x38 n38 (by simp) (by simp[IsL,Is]) fun R hR=>?_
 (refine Y_go 600 ?_; dsimp only[go_sem,reduceAdd,Nat.reduceBEq])
 by_cases h1024:1024 < l.length
 ·refine zj00 (vs:=[.slice A l.length c]) (R:=fun v=>v=.tuple #[.slice none 0 0,.int .i64 2]) rfl (fun W hW=>look22_big l.length A c W h1024) fun v hv=>⟨.tup [.val (.slice none 0 0),.val (.int .i64 2)],by rw[hv]; simp[Is,IsL],?_⟩
  (refine Y_go 600 ?_; dsimp only[go_sem,Nat.reduceBEq,reduceAdd])
  refine⟨fun _=>?_,fun h=>absurd h (by decide)⟩
  exact zj01 (vs:=[_,_]) r38 rfl rfl fun W hW=>hR _ _ ⟨hW.fresh',_,by rw[zj4q h1024]; rfl,by rw[zj6l h1024]; exact zj1b _ _ _ _⟩
 have h1024:l.length≤1024:=by omega
 refine zj0b (vs:=[.slice A l.length c]) rfl (R:=fun W v W'=>∃ (A:Option Addr) (c:Nat) (fs:List (Int × Int)),FoundOk l fs∧v=.tuple #[.slice A fs.length c,.int .i64 0]∧World.ownsB W' W.heap.size 33 2 (.slice A fs.length c) fs.length (fsV fs)∧Fresh W W') (fun W hW=>look22F l A c W h1024 (hA.keep hW.fresh') (hG.keep hW.fresh')) fun W v W' hW ⟨A1,c1,fs,hf,hv,ho,hk⟩=>?_
 have hfl:fs.length≤maxLen:=owns_le ho
 obtain⟨A',c',e1,e2,e5,_⟩:=hW.gain ho hk
 injection e1 with e3 _ e4
 subst e3; subst e4; subst hv
 refine⟨.tup [.own 0 0,.val (.int .i64 0)],_,?_,e2,e5,?_⟩
 ·simp only[Is,IsL]; exact⟨_,⟨_,_,⟨_,_,_,_,_,_,_,rfl,Nat.le_refl _,⟨_,_,_,rfl⟩,fun _=>rfl⟩,⟨_,_,rfl,rfl,rfl⟩,rfl⟩,rfl⟩
 simp only[maxLen] at hfl
 clear e5 e2 hW ho hk
 (refine Y_go 600 ?_; dsimp only[go_sem,Nat.reduceBEq,reduceAdd])
 refine⟨fun h=>absurd h (by decide),fun _=>?_⟩
 have hn1:((l.length:Nat):Int).toNat=l.length:=by omega
 refine⟨⟨by omega,by omega,by omega,by omega⟩,fun g g1=>?_⟩
 rw[hn1,ng_zero fs]
 refine zj08 (α:=Nat) (fun i=>i≤fs.length) (fun _=>⟨w,w.heap.size,[],37,[]⟩) (fun i=>{ F:=[(0,.val (.slice A l.length c)),(4,.own 0 0),(6,.ptr 2 0),(20,.own 0 0),(21,.val (.int .i64 fs.length)),(22,.val (.int .i64 (i:Int)))],H:=[.own 33 0 2 A1 fs.length c1 (fsV fs),.own 4 0 1 (some ⟨g,0,none⟩) l.length l.length (bV (ng fs l.length i)),.cells g1 65 [.own 1 0]] }) (fun i=>fs.length - i) (fun _=>rfl) ?start ?round
 case start =>
  intro a W rep
  exact⟨0,Nat.zero_le _,rep.lq⟩
 case round =>
  intro i hi I again
  have hi:i≤fs.length:=hi
  (refine Y_go 600 ?_; dsimp only[go_sem,Nat.reduceBEq,reduceAdd])
  refine⟨fun hlt=>?_,fun hge=>?_⟩
  ·have hil:i < fs.length:=by have:=of_decide_eq_true hlt; omega
   have hx:fs[i]? = some fs[i]:=List.getElem?_eq_getElem hil
   generalize fs[i]=x at hx
   obtain⟨xc,xp⟩:=x
   have hc:=fsV_get fs i _ hx
   have hi1:((i:Nat):Int).toNat=i:=by omega
   obtain⟨hp0,hp1,_⟩:=bad_fits (by omega) ((hf.mem xc xp).1 (List.mem_of_getElem? hx))
   have hbl:xp.toNat*1+1≤(bV (ng fs l.length i)).length:=by rw[bV_len,ng_len]; omega
   rw[hi1]
   refine⟨⟨by omega,by omega⟩,xc,hc.1,xp,hc.2,fun g2=>⟨fun h8=>⟨⟨hp0,hp1⟩,hbl,((i+1:Nat):Int),ArOk.to (by omega) (by omega) (by omega),zj02 fun a W rep=>again (i+1) (by show i+1≤_; omega) (by show fs.length - (i+1) < fs.length - i; omega) a W (rep.le (by (simp only[go_sem,lk,Nat.reduceBEq,reduceLT,reduceAdd] <;> try simp)) ?_)⟩,fun h8=>⟨((i+1:Nat):Int),ArOk.to (by omega) (by omega) (by omega),zj02 fun a W rep=>again (i+1) (by show i+1≤_; omega) (by show fs.length - (i+1) < fs.length - i; omega) a W (rep.le (by (simp only[go_sem,lk,Nat.reduceBEq,reduceLT,reduceAdd] <;> try simp)) ?_)⟩⟩⟩
   ·have h8:xc=8:=by simpa using h8
    subst h8
    rw[Nat.mul_one,ng_set hx hp0]; (simp only[go_sem,lk,Nat.reduceBEq,reduceLT,reduceAdd] <;> try simp)
   ·have h8:xc ≠ 8:=by simpa using h8
    rw[ng_same hx h8]; (simp only[go_sem,lk,Nat.reduceBEq,reduceLT,reduceAdd] <;> try simp)
  ·have hil:i=fs.length:=by have:=of_decide_eq_false hge; omega
   subst hil
   refine zj1d (vs:=[.slice A l.length c,.func (.func 64) #[] [Value.pointer (some ⟨g1,0,none⟩)].toArray]) rfl (fun W hW=>drop85 A c l 64 [.pointer (some ⟨g1,0,none⟩)] (gB (ng fs l.length fs.length)) W (hG.keep hW.fresh') (hA.keep hW.fresh') (by omega) ok87 (fun W' hk i hi =>
    (by rw[← ng_len fs l.length fs.length] at hi; exact gone87 i (ng fs l.length fs.length) (some ⟨g,0,none⟩) l.length (some ⟨g1,0,none⟩) W' (by rw[ng_len]; exact (hW.cellsAt (i:=2) rfl rfl).keep hk) ((hW.rowAt (i:=1) rfl).keep hk) hi (by rw[ng_len]; omega)))) fun A3 c3=>?_
   rw[drop_ng hf]
   (refine Y_go 600 ?_; dsimp only[go_sem,reduceAdd,Nat.reduceBEq])
   exact zj01 (vs:=[_,_]) r38 rfl rfl fun W hW=>hR _ _ ⟨hW.fresh',_,by rw[zj2d h1024]; rfl,by rw[zj25 h1024]; exact hW.owns (i:=3) rfl⟩
end Go.Proofs.YtgghmmjoplddbaaGreatDoor
