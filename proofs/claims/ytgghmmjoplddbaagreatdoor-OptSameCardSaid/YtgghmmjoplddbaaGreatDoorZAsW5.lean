/- The first wrong line: asm.wrong. -/
import Derived.Test.YtgghmmjoplddbaaGreatDoorZAsW4
set_option linter.unusedSimpArgs false
set_option linter.unusedVariables false
set_option linter.unnecessarySimpa false
namespace Go.Proofs.YtgghmmjoplddbaaGreatDoor
open Go Go.Sx Go.Isa Go.Asm
open Nat (reduceAdd reduceLT)
set_option maxRecDepth 100000
theorem ln_get {l:List Ln} {i:Nat} (hi:i < l.length) {k:Nat} (hk:k < 7):(lnV l)[i*7+k]? = (lnC l[i])[k]? := zj33 (f:=lnC) (sz:=7) (fun _=>rfl) l hi hk
theorem ln_len (l:List Ln):(lnV l).length=l.length*7:=zj2j (f:=lnC) (sz:=7) (fun _=>rfl) l
theorem lb_get {l:List (B × Nat)} {i:Nat} (hi:i < l.length) {k:Nat} (hk:k < 2):(lbV l)[i*2+k]? = (lbC l[i])[k]? := zj33 (f:=lbC) (sz:=2) (fun _=>rfl) l hi hk
theorem lb_len (l:List (B × Nat)):(lbV l).length=l.length*2:=zj2j (f:=lbC) (sz:=2) (fun _=>rfl) l
theorem wrong97 (t:B) (l:List Ln) (A:Option Addr) (c bad:Nat) (w:World) (ht:t.length≤400000) (hA:RowAt w A (lnV l)) (hl:l.length≤1024) (hG:ShAt w) (hT:TabAt w) (hLb:LibAt w) :
  CallsV Tryz.prog 67 [.string ⟨⟨t⟩⟩,.slice A l.length c,.int .i64 (bad:Int)] w fun v w'=>v=.int .i64 ((wrongL (allN (linesL t)) l bad:Nat):Int)∧Fresh w w':=by
 refine zj03 (keep:=K67) (nt:=32) (svs:=[.val (.string ⟨⟨t⟩⟩),.val (.slice A l.length c),.val (.int .i64 (bad:Int))]) Tryz.func67 x67 n67 (by simp) (by simp[IsL,Is]) fun R hR=>?_
 (refine Y_go 600 ?_; dsimp only[go_sem,reduceAdd,Nat.reduceBEq])
 refine zj0b (vs:=[.string ⟨⟨t⟩⟩]) rfl (R:=fun W v W'=>∃ g l,v=.map (some g)∧W.heap.size≤g∧EntryOk [] (fun j=>W'.heap[j]?) (.map g l)∧Holds1 l (allN (linesL t))∧Fresh W W') (fun W hW=>all129 t W ht (hG.keep hW.fresh') (hT.keep hW.fresh') (hLb.keep hW.fresh')) fun W v W' hW ⟨g,m,hv,hg,he,hm,hf⟩=>?_
 generalize allN (linesL t)=nms at hm hR ⊢
 refine⟨.mp 0,[.map g m],?_,HExt.push _ _,?_,?_⟩
 ·rw[hv]; simp[Is,blk,nth]
 ·refine hW.pushG (row:=none) hf.size hf.os hf.tape hf.output (fun j hj _=>hf.block j hj) (fun _ e=>by cases e) (fun g' hg'=>?_) he
  simp[SO.fp] at hg'; subst hg'
  obtain⟨es,ck,h1,_⟩:=he
  exact⟨.inr hg,(Array.getElem?_eq_some_iff.1 h1).1⟩
 clear he hv hf hg
 (refine Y_go 600 ?_; dsimp only[go_sem,Nat.reduceBEq])
 refine zj08 (α:=Nat) (fun i=>i≤l.length∧wrongL nms (l.drop i) bad=wrongL nms l bad) (fun _=>⟨w,w.heap.size,[],32,[]⟩) (fun i=>{ F:=[(0,.val (.string ⟨⟨t⟩⟩)),(1,.val (.slice A l.length c)),(2,.val (.int .i64 (bad:Int))),(7,.mp 0),(12,.val (.slice A l.length c)),(13,.val (.int .i64 l.length)),(14,.val (.int .i64 (i:Int)))],H:=[.map g m] }) (fun i=>l.length - i) (fun _=>rfl) ?start ?round
 case start =>
  intro a W rep
  exact⟨0,⟨Nat.zero_le _,rfl⟩,rep.lq⟩
 case round =>
  rintro i ⟨hi,hw⟩ I again
  (refine Y_go 600 ?_; dsimp only[go_sem,Nat.reduceBEq,reduceAdd])
  refine⟨fun hlt=>?_,fun hge=>?_⟩
  ·have hlt:i < l.length:=by have:=of_decide_eq_true hlt; omega
   have hdr:l.drop i=l[i] :: l.drop (i+1):=List.drop_eq_getElem_cons hlt
   have hi1:((i:Nat):Int).toNat=i:=by omega
   have cl:∀ k v,k < 7→(lnC l[i])[k]? = some v→CellAt ⟨w,w.heap.size,[],32,[]⟩ A (i*7+k) v:=fun k v hk hv=>hA.cell (by rw[ln_get hlt hk]; exact hv)
   have sA:A.isSome=true:=hA.isSome (j:=i*7) (by rw[ln_len]; omega)
   generalize l[i]=y at cl hdr
   rw[hdr] at hw
   have hstep:wrongL nms (y :: l.drop (i+1)) bad=if y.name ≠ []∧y.name ∉ nms then y.n else wrongL nms (l.drop (i+1)) bad:=rfl
   rw[hstep] at hw
   rw[hi1]
   refine⟨⟨by omega,by omega,sA⟩,_,cl 0 _ (by omega) rfl,_,cl 1 _ (by omega) rfl,_,cl 2 _ (by omega) rfl,_,cl 3 _ (by omega) rfl,_,cl 4 _ (by omega) rfl,_,cl 5 _ (by omega) rfl,_,cl 6 _ (by omega) rfl,fun gx=>?_⟩
   have nxt:¬ (y.name ≠ []∧y.name ∉ nms)→∀ F r,leF 1 F [(0,.val (.string ⟨⟨t⟩⟩)),(1,.val (.slice A l.length c)),(2,.val (.int .i64 (bad:Int))),(7,.mp 0),(12,.val (.slice A l.length c)),(13,.val (.int .i64 l.length)),(14,.val (.int .i64 ((i+1:Nat):Int)))]→G (cxOf Tryz.prog Tryz.f67 K67 T67 R) ⟨w,w.heap.size,[],32,[]⟩ [.lend I,.blk 0,.code (.ref 5)] { F:=F,H:=[.map g m]++r }:=fun h F r hF =>
    zj02 fun a W rep=>again (i+1) ⟨by omega,by rw[if_neg h] at hw; exact hw⟩ (by omega) a W (rep.le hF (by (simp only[go_sem,lk,Nat.reduceBEq,reduceLT,reduceAdd] <;> try simp)))
   refine⟨fun hne=>?_,fun hem=>⟨((i+1:Nat):Int),ArOk.to (by omega) (by omega) (by omega),nxt ?_ _ [_] (by (simp only[go_sem,lk,Nat.reduceBEq,reduceLT,reduceAdd] <;> try simp))⟩⟩
   rotate_left
   ·have hem:(!decide (y.name=[]))=false:=(strNeq y.name []).symm.trans hem
    simp at hem
    simp[hem]
   have hne:(!decide (y.name=[]))=true:=(strNeq y.name []).symm.trans hne
   have hne:y.name ≠ []:=by simpa using hne
   refine⟨hm.1.keys,_,rfl,.val (.int .i64 (if y.name ∈ nms then 1 else 0)),?_,?_⟩
   ·rw[hm.2]; split <;> rfl
   dsimp only[go_sem,Nat.reduceBEq,reduceAdd]
   refine⟨fun h=>?_,fun h=>⟨((i+1:Nat):Int),ArOk.to (by omega) (by omega) (by omega),nxt ?_ _ [_] (by (simp only[go_sem,lk,Nat.reduceBEq,reduceLT,reduceAdd] <;> try simp))⟩⟩
   ·have h:y.name ∉ nms:=by
     intro hin; rw[if_pos hin] at h; exact absurd h (by decide)
    rw[if_pos ⟨hne,h⟩] at hw
    exact zj01 (vs:=[_]) r67 rfl rfl fun W hW=>hR _ _ ⟨by rw[← hw]; rfl,hW.fresh'⟩
   ·rintro ⟨_,h2⟩
    rw[if_neg h2] at h
    exact absurd h (by decide)
  ·have hil:i=l.length:=by have:=of_decide_eq_false hge; omega
   subst hil
   rw[List.drop_length] at hw
   exact zj01 (vs:=[_]) r67 rfl rfl fun W hW=>hR _ _ ⟨by rw[← hw]; rfl,hW.fresh'⟩
def asmE (n:Nat):Int:=if n=0 then 0 else 150
theorem zj6s (t:B) (w:World) (ht:t.length≤400000) (hG:ShAt w) (hT:TabAt w) (hLb:LibAt w) :
  CallsV Tryz.prog 40 [.string ⟨⟨t⟩⟩] w fun v w'=>∃ (A:Option Addr) (c:Nat),v=.tuple #[.slice A (asmL t).1.length c,.int .i64 ((asmL t).2.2:Nat),.int .i64 (asmE (asmL t).2.2)]∧World.ownsB w' w.heap.size 47 5 (.slice A (asmL t).1.length c) (asmL t).1.length (cellsI (asmL t).1)∧Fresh w w':=by
 refine zj03 (keep:=K40) (nt:=63) (svs:=[.val (.string ⟨⟨t⟩⟩)]) Tryz.func40 x40 n40 (by simp) (by simp[IsL,Is]) fun R hR=>?_
 (refine Y_go 600 ?_; dsimp only[go_sem,reduceAdd,Nat.reduceBEq])
 refine zj1i (vs:=[.string ⟨⟨t⟩⟩]) rfl (R:=fun W v W'=>readR (readL (linesL t) [] []) W W' v) (fun W hW=>read96 t W ht (hG.keep hW.fresh') (hT.keep hW.fresh') (hLb.keep hW.fresh')) (fun _ _ _ h=>by obtain⟨_,_,_,_,_,_,_,h⟩:=h; exact h) fun W v W' hW hr ov=>?_
 have hok:=zj7g (linesL t) [] [] LbOk.nil (by simp)
 have has:asmL t=(if wrongL (allN (linesL t)) (readL (linesL t) [] []).1 (readL (linesL t) [] []).2.2=0 then (outL (readL (linesL t) [] []).2.1 (readL (linesL t) [] []).1,(readL (linesL t) [] []).2.1,0) else ([],[],wrongL (allN (linesL t)) (readL (linesL t) [] []).1 (readL (linesL t) [] []).2.2)):=rfl
 generalize asmL t=res at has hR ⊢
 generalize readL (linesL t) [] []=r at hr hok has
 obtain⟨l,lb,bad⟩:=r
 simp only at hok has
 obtain⟨A1,c1,A2,c2,rfl,ho1,ho2,hf⟩:=hr
 simp only at ho1 ho2
 have hG':ShAt W':=(hG.keep hW.fresh').keep hf
 have hT':TabAt W':=(hT.keep hW.fresh').keep hf
 have hL':LibAt W':=(hLb.keep hW.fresh').keep hf
 have hr1:RowAt W' A1 (lnV l):=.of_own ho1 rfl
 have hr2:RowAt W' A2 (lbV lb):=.of_own ho2 rfl
 have hw1:Fresh w W':=Fresh.tr hW.fresh' hf
 refine⟨.tup [.val (.slice A1 l.length c1),.val (.slice A2 lb.length c2),.val (.int .i64 (bad:Int))],by simp[Is,IsL],?_⟩
 have hfp:fps ([]:List SO)=[]:=rfl
 rw[hfp]
 have back:∀ {H:List SO} {W2:World},HeapOk ⟨W',W'.heap.size,[],63,[]⟩ H W2→Fresh w W2:=fun h=>Fresh.tr hw1 h.fresh'
 clear ov
 have hlb:=ownsB_max ho2
 simp only[maxLen] at hlb
 (refine Y_go 600 ?_; dsimp only[go_sem,Nat.reduceBEq])
 have hl1:l.length≤1024:=hok.2
 refine zj00 (vs:=[.string ⟨⟨t⟩⟩,.slice A1 l.length c1,.int .i64 (bad:Int)]) rfl (fun W2 hW2=>wrong97 t l A1 c1 bad W2 ht (hr1.keep hW2.fresh') hl1 (hG'.keep hW2.fresh') (hT'.keep hW2.fresh') (hL'.keep hW2.fresh')) fun v hv=>⟨.val (.int .i64 ((wrongL (allN (linesL t)) l bad:Nat):Int)),by rw[hv]; simp[Is],?_⟩
 generalize wrongL (allN (linesL t)) l bad=n at has
 (refine Y_go 600 ?_; dsimp only[go_sem,Nat.reduceBEq])
 refine⟨fun h=>?_,fun h=>?_⟩
 ·have h:n ≠ 0:=by have:=of_decide_eq_true h; omega
  rw[if_neg h] at has
  subst has
  refine zj01 (vs:=[_,_,_]) r40 rfl rfl fun W2 hW2=>hR _ _ ⟨none,0,?_,zj1b _ _ _ _,back hW2⟩
  simp[asmE,h,tupOf]
 have h:n=0:=by have:=of_decide_eq_false h; omega
 rw[if_pos h] at has
 subst h; subst has
 intro gm
 have hup:=hok.1.nd
 refine zj08 (α:=Nat × List (Value × Value)) (fun x=>x.1≤lb.length∧Places x.2 (lb.take x.1)) (fun _=>⟨W',W'.heap.size,[],63,[]⟩) (fun x=>{ F:=[(0,.val (.string ⟨⟨t⟩⟩)),(5,.val (.slice A1 l.length c1)),(6,.val (.slice A2 lb.length c2)),(9,.mp 0),(29,.val (.slice A2 lb.length c2)),(30,.val (.int .i64 lb.length)),(31,.val (.int .i64 (x.1:Int)))],H:=[.map gm x.2] }) (fun x=>lb.length - x.1) (fun _=>rfl) ?start ?round
 case start =>
  intro a W rep
  exact⟨(0,[]),⟨Nat.zero_le _,Places.nil⟩,rep.lq⟩
 case round =>
  rintro ⟨i,m⟩ ⟨hi,hm⟩ I again
  have hi:i≤lb.length:=hi
  have hm:Places m (lb.take i):=hm
  (refine Y_go 600 ?_; dsimp only[go_sem,Nat.reduceBEq,reduceAdd])
  refine⟨fun hlt=>?_,fun hge=>?_⟩
  ·have hlt:i < lb.length:=by have:=of_decide_eq_true hlt; omega
   have hx:lb[i]? = some lb[i]:=List.getElem?_eq_getElem hlt
   have htk:lb.take (i+1)=lb.take i++[lb[i]]:=by rw[List.take_add_one,hx]; rfl
   have hnin:(lb[i]).1 ∉ (lb.take i).map (·.1):=by
    intro hin
    have h2:(lb.map (·.1))=(lb.take i).map (·.1)++((lb[i]).1 :: (lb.drop (i+1)).map (·.1)):=by
     show _=_++List.map (·.1) (lb[i] :: lb.drop (i+1))
     rw[← List.drop_eq_getElem_cons hlt,← List.map_append,List.take_append_drop]
    rw[h2] at hup
    exact (List.nodup_append.1 hup).2.2 _ hin _ (by simp) rfl
   have cl:∀ k v,k < 2→(lbC lb[i])[k]? = some v→CellAt ⟨W',W'.heap.size,[],63,[]⟩ A2 (i*2+k) v:=fun k v hk hv=>hr2.cell (by rw[lb_get hlt hk]; exact hv)
   have sA:A2.isSome=true:=hr2.isSome (j:=i*2) (by rw[lb_len]; omega)
   generalize lb[i]=y at cl htk hnin
   have hi1:((i:Nat):Int).toNat=i:=by omega
   rw[hi1]
   refine⟨⟨by omega,by omega,sA⟩,_,cl 0 _ (by omega) rfl,_,cl 1 _ (by omega) rfl,fun gx=>?_⟩
   refine⟨hm.1.keys,((i+1:Nat):Int),ArOk.to (by omega) (by omega) (by omega),zj02 fun a W rep=>again (i+1,mput m (.string ⟨⟨y.1⟩⟩) (.int .i64 (y.2:Int))) ⟨by show i+1≤_; omega,?_⟩ (by show lb.length - (i+1) < lb.length - i; omega) a W (rep.lq)⟩
   show Places _ (lb.take (i+1))
   rw[htk]
   exact hm.put y.2 hnin
  ·have hil:i=lb.length:=by have:=of_decide_eq_false hge; omega
   subst hil
   rw[List.take_length] at hm
   (refine Y_go 600 ?_; dsimp only[go_sem])
   refine zj08 (α:=Nat × Option Addr × Nat) (fun x=>x.1≤l.length) (fun _=>⟨W',W'.heap.size,[],63,[]⟩) (fun x=>{ F:=[(0,.val (.string ⟨⟨t⟩⟩)),(5,.val (.slice A1 l.length c1)),(9,.mp 0),(12,.own 1 0),(41,.val (.slice A1 l.length c1)),(42,.val (.int .i64 l.length)),(43,.val (.int .i64 (x.1:Int)))],H:=[.map gm m,.own 47 0 5 x.2.1 x.1 x.2.2 (cellsI (outL lb (l.take x.1)))] }) (fun x=>l.length - x.1) (fun _=>rfl) ?start2 ?round2
   case start2 =>
    intro a W rep
    refine⟨(0,none,0),Nat.zero_le _,((rep.le (s':={ F:=[(0,.val (.string ⟨⟨t⟩⟩)),(5,.val (.slice A1 l.length c1)),(9,.mp 0),(12,.val (.slice none 0 0)),(41,.val (.slice A1 l.length c1)),(42,.val (.int .i64 l.length)),(43,.val (.int .i64 0))],H:=[.map gm m] }) (by (simp only[go_sem,lk,Nat.reduceBEq,reduceLT,reduceAdd] <;> try simp)) (by (simp only[go_sem,lk,Nat.reduceBEq,reduceLT,reduceAdd] <;> try simp))).adopt 12 47 5 rfl).le (by (simp only[go_sem,lk,Nat.reduceBEq,reduceLT,reduceAdd] <;> try simp)) (by (simp only[go_sem,lk,Nat.reduceBEq,reduceLT,reduceAdd] <;> try simp); rfl)⟩
   case round2 =>
    rintro ⟨i,A,c⟩ hi I2 again2
    have hi:i≤l.length:=hi
    (refine Y_go 600 ?_; dsimp only[go_sem,Nat.reduceBEq,reduceAdd,Nat.reduceMul])
    refine⟨fun hlt=>?_,fun hge=>?_⟩
    rotate_left
    ·have hil:i=l.length:=by have:=of_decide_eq_false hge; omega
     subst hil
     rw[List.take_length]
     refine zj01 (vs:=[_,_,_]) r40 rfl rfl fun W2 hW2=>hR _ _ ⟨A,c,?_,?_,back hW2⟩
     ·have:(outL lb l).length=l.length:=by simp[outL]
      simp[asmE,tupOf,this]
     ·have:=hW2.owns (i:=1) rfl
      have e:(outL lb l).length=l.length:=by simp[outL]
      rw[e]
      exact zj3k this (hw1.size)
    have hlt:i < l.length:=by have:=of_decide_eq_true hlt; omega
    have hx:l[i]? = some l[i]:=List.getElem?_eq_getElem hlt
    have htk:outL lb (l.take (i+1))=outL lb (l.take i)++outL lb [l[i]]:=by
     rw[List.take_add_one,hx]; unfold outL; rw[List.map_append]; rfl
    have cl:∀ k v,k < 7→(lnC l[i])[k]? = some v→CellAt ⟨W',W'.heap.size,[],63,[]⟩ A1 (i*7+k) v:=fun k v hk hv=>hr1.cell (by rw[ln_get hlt hk]; exact hv)
    have sA:A1.isSome=true:=hr1.isSome (j:=i*7) (by rw[ln_len]; omega)
    generalize l[i]=y at cl htk
    have hi1:((i:Nat):Int).toNat=i:=by omega
    rw[hi1]
    refine⟨⟨by omega,by omega,sA⟩,_,cl 0 _ (by omega) rfl,_,cl 1 _ (by omega) rfl,_,cl 2 _ (by omega) rfl,_,cl 3 _ (by omega) rfl,_,cl 4 _ (by omega) rfl,_,cl 5 _ (by omega) rfl,_,cl 6 _ (by omega) rfl,fun gx=>?_⟩
    have hol:(outL lb (l.take i)).length=i:=by unfold outL; rw[List.length_map,List.length_take]; omega
    have hcap:i+1≤maxLen∧(i+1)*40≤140737488355328:=⟨by simp only[maxLen]; omega,by omega⟩
    have fin:∀ (z:In) (A3:Option Addr) (c3:Nat) (F:List (Nat × SV)) (H:List SO),outL lb [y]=[z]→leF 2 F [(0,.val (.string ⟨⟨t⟩⟩)),(5,.val (.slice A1 l.length c1)),(9,.mp 0),(12,.own 1 1),(41,.val (.slice A1 l.length c1)),(42,.val (.int .i64 l.length)),(43,.val (.int .i64 ((i+1:Nat):Int)))]→leH 2 H [.map gm m,.own 47 1 5 A3 (i+1) c3 (cellsI (outL lb (l.take i))++z.cells)]→G (cxOf Tryz.prog Tryz.f40 K40 T40 R) ⟨W',W'.heap.size,[],63,[]⟩ [.lend I2,.blk 2,.code (.ref 12)] { F:=F,H:=H }:=by
     intro z A3 c3 F H hz hF hH
     refine zj02 fun a W rep=>again2 (i+1,A3,c3) (by show i+1≤_; omega) (by show l.length - (i+1) < l.length - i; omega) a W ((rep.le (s':={ F:=[(0,.val (.string ⟨⟨t⟩⟩)),(5,.val (.slice A1 l.length c1)),(9,.mp 0),(12,.own 1 1),(41,.val (.slice A1 l.length c1)),(42,.val (.int .i64 l.length)),(43,.val (.int .i64 ((i+1:Nat):Int)))],H:=[.map gm m,.own 47 1 5 A3 (i+1) c3 (cellsI (outL lb (l.take i))++z.cells)] }) hF hH).res.le (by (simp only[go_sem,lk,Nat.reduceBEq,reduceLT,reduceAdd] <;> try simp)) ?_)
     simp only[htk,hz,zj66]
     (simp only[go_sem,lk,Nat.reduceBEq,reduceLT,reduceAdd] <;> try simp)
     simp[cellsI]
    refine⟨fun hne=>?_,fun hem g1=>⟨hcap,fun A3 c3=>⟨((i+1:Nat):Int),ArOk.to (by omega) (by omega) (by omega),fin y.x A3 c3 _ _ ?_ (by (simp only[go_sem,lk,Nat.reduceBEq,reduceLT,reduceAdd] <;> try simp)) (by (simp only[go_sem,lk,Nat.reduceBEq,reduceLT,reduceAdd] <;> try simp); rfl)⟩⟩⟩
    rotate_left
    ·have hem:(!decide (y.name=[]))=false:=(strNeq y.name []).symm.trans hem
     simp at hem
     simp[outL,hem]
    have hne:(!decide (y.name=[]))=true:=(strNeq y.name []).symm.trans hne
    have hne:y.name ≠ []:=by simpa using hne
    refine⟨hm.1.keys,_,rfl,.val (.int .i64 (place lb y.name:Nat)),?_,?_⟩
    ·rw[hm.2,place_lk]; cases lkB lb y.name <;> rfl
    dsimp only[go_sem,Nat.reduceBEq,reduceAdd,Nat.reduceMul]
    refine fun g1=>⟨hcap,fun A3 c3=>⟨((i+1:Nat):Int),ArOk.to (by omega) (by omega) (by omega),fin { y.x with imm:=(place lb y.name:Nat) } A3 c3 _ _ ?_ (by (simp only[go_sem,lk,Nat.reduceBEq,reduceLT,reduceAdd] <;> try simp)) (by (simp only[go_sem,lk,Nat.reduceBEq,reduceLT,reduceAdd] <;> try simp); rfl)⟩⟩
    simp[outL,hne]
end Go.Proofs.YtgghmmjoplddbaaGreatDoor
