/- The document's drop. -/
import Derived.Test.YtlbiogokpadaoaaGreatDoorDpPlain
import Derived.Test.YtlbiogokpadaoaaGreatDoorBgIsa3
import Derived.Test.YtlbiogokpadaoaaGreatDoorBgCodeDrop
set_option linter.unusedSimpArgs false
set_option linter.unusedVariables false
set_option linter.unnecessarySimpa false
namespace Go.Proofs.YtlbiogokpadaoaaGreatDoor
open Go Go.Sx Go.Isa
open Nat (reduceAdd reduceLT)
set_option maxRecDepth 100000
def bV (o:List Bool):List Value:=o.map Value.bool
theorem bV_get {o:List Bool} {j:Nat} (h:j < o.length):(bV o)[j]? = some (.bool (o.getD j false)):=by
 unfold bV
 rw[List.getElem?_map,List.getElem?_eq_getElem h]
 simp[List.getD,List.getElem?_eq_getElem h]
theorem bV_len (o:List Bool):(bV o).length=o.length:=by simp[bV]
def gB (g:List Bool) (i:Nat):Bool:=g.getD i false
structure D94 where
 i:Nat
 A:Option Addr
 c:Nat
theorem drop94 (A B:Option Addr) (c d:Nat) (l:List In) (g:List Bool) (w:World) (hA:RowAt w A (cellsI l)) (hB:RowAt w B (bV g)) (hl:l.length≤2000) (hg:g.length=l.length) :
  CallsV Tryz.prog 94 [.slice A l.length c,.slice B l.length d] w fun v w'=>World.ownsB w' w.heap.size 41 5 v (dropP (gB g) l).length (cellsI (dropP (gB g) l))∧Fresh w w':=by
 refine zj03 (keep:=K94) (nt:=56) (svs:=[.val (.slice A l.length c),.val (.slice B l.length d)]) Tryz.func94 x94 n94 (by simp) (by simp[IsL,Is]) fun R hR=>?_
 have gc:∀ {i:Nat},i < l.length→CellAt ⟨w,w.heap.size,[],56,[]⟩ B (i*1) (.bool (gB g i)):=fun {i} hi=>hB.cell (by rw[Nat.mul_one]; exact bV_get (by omega))
 have gs:∀ {i:Nat},i < l.length→B.isSome=true:=fun {i} hi=>hB.isSome (j:=i) (by rw[bV_len]; omega)
 (refine Y_go 600 ?_; dsimp only[go_sem,reduceAdd,Nat.reduceBEq])
 refine zj04 (α:=D94) (fun y=>y.i≤l.length) (fun _=>⟨w,w.heap.size,[],56,[]⟩) (fun y=>{ F:=[(0,.val (.slice A l.length c)),(1,.val (.slice B l.length d)),(5,.own 0 0),(6,.val (.int .i64 (y.i:Int)))],H:=[.own 41 0 5 y.A (dropTo (gB g) l y.i).length y.c (cellsI (dropTo (gB g) l y.i))] }) (fun y=>l.length - y.i) (fun _=>rfl) ?start ?round
 case start =>
  intro a W rep
  refine⟨⟨0,none,0⟩,Nat.zero_le _,?_⟩
  have rep1:=(rep.le (s':={ F:=[(0,.val (.slice A l.length c)),(1,.val (.slice B l.length d)),(5,.val (.slice none 0 0)),(6,.val (.int .i64 0))],H:=[] }) (by (simp only[go_sem,lk,Nat.reduceBEq,reduceLT,reduceAdd] <;> try simp)) (by (simp only[go_sem,lk,Nat.reduceBEq,reduceLT,reduceAdd] <;> try simp))).adopt 5 41 5 rfl
  exact rep1.le (by (simp only[go_sem,lk,Nat.reduceBEq,reduceLT,reduceAdd] <;> try simp)) (by (simp only[go_sem,lk,Nat.reduceBEq,reduceLT,reduceAdd] <;> try simp); exact⟨rfl,rfl⟩)
 case round =>
  rintro ⟨i,A2,c2⟩ hi I again
  have hi:i≤l.length:=hi
  have hdl:=zj2y (gB g) l i hi
  have hle:=zj25 (gB g) i
  (refine Y_go 600 ?_; dsimp only[go_sem,Nat.reduceBEq,reduceAdd])
  refine⟨fun hlt=>?_,fun hge=>?_⟩
  rotate_left
  ·have hil:i=l.length:=by have:=of_decide_eq_false hge; omega
   subst hil
   exact zj02 (vs:=[_]) r94 rfl rfl fun W hW=>hR _ _ ⟨hW.owns (i:=0) rfl,hW.fresh'⟩
  have hlt:i < l.length:=by have:=of_decide_eq_true hlt; omega
  have hi1:((i:Nat):Int).toNat=i:=by omega
  have hx:l[i]? = some l[i]:=List.getElem?_eq_getElem hlt
  rw[hi1]
  refine⟨⟨by omega,by omega,gs hlt⟩,gB g i,gc hlt,fun hb=>⟨((i+1:Nat):Int),ArOk.to (by omega) (by omega) (by omega),?_⟩,fun hb=>?_⟩
  ·have e:dropTo (gB g) l (i+1)=dropTo (gB g) l i:=by simp[dropTo,hx,hb]
   exact zj00 fun a W rep=>again ⟨i+1,A2,c2⟩ (by show i+1≤_; omega) (by show l.length - (i+1) < l.length - i; omega) a W (rep.le (by (simp only[go_sem,lk,Nat.reduceBEq,reduceLT,reduceAdd] <;> try simp)) (by rw[e]; (simp only[go_sem,lk,Nat.reduceBEq,reduceLT,reduceAdd] <;> try simp)))
  ·refine⟨⟨by omega,by omega,someI hA hlt⟩,_,cellI hA hlt (k:=0) rfl,_,cellI hA hlt (k:=1) rfl,_,cellI hA hlt (k:=2) rfl,_,cellI hA hlt (k:=3) rfl,_,cellI hA hlt (k:=4) rfl,fun gx=>?_⟩
   generalize l[i]=x at hx
   refine zj01 (vs:=[In.val x]) rfl (fun W hW=>goes93 x W) fun v hv=>⟨.val (.int .i64 (goK x)),by rw[hv]; simp[Is],?_⟩
   (refine Y_go 600 ?_; dsimp only[go_sem,Nat.reduceBEq,reduceAdd,Nat.reduceMul])
   have hcap:((dropTo (gB g) l i).length+1≤maxLen∧((dropTo (gB g) l i).length+1)*40≤140737488355328):=⟨by simp only[maxLen]; omega,by omega⟩
   have fin:∀ (y:In) (A3:Option Addr) (c3:Nat) (F:List (Nat × SV)) (H:List SO),adjI (gB g) l.length x=y→leF 1 F [(0,.val (.slice A l.length c)),(1,.val (.slice B l.length d)),(5,.own 0 1),(6,.val (.int .i64 ((i+1:Nat):Int)))]→leH 1 H [.own 41 1 5 A3 ((dropTo (gB g) l i).length+1) c3 (cellsI (dropTo (gB g) l i)++y.cells)]→G (cxOf Tryz.prog Tryz.f94 K94 T94 R) ⟨w,w.heap.size,[],56,[]⟩ [.lend I,.blk 0,.code (.ref 14)] { F:=F,H:=H }:=by
    intro y A3 c3 F H hy hF hH
    have e:dropTo (gB g) l (i+1)=dropTo (gB g) l i++[y]:=by simp[dropTo,hx,hb,hy]
    refine zj00 fun a W rep=>again ⟨i+1,A3,c3⟩ (by show i+1≤_; omega) (by show l.length - (i+1) < l.length - i; omega) a W ((rep.le (s':={ F:=[(0,.val (.slice A l.length c)),(1,.val (.slice B l.length d)),(5,.own 0 1),(6,.val (.int .i64 ((i+1:Nat):Int)))],H:=[.own 41 1 5 A3 ((dropTo (gB g) l i).length+1) c3 (cellsI (dropTo (gB g) l i)++y.cells)] }) hF hH).res.le (by (simp only[go_sem,lk,Nat.reduceBEq,reduceLT,reduceAdd] <;> try simp)) ?_)
    rw[e,zj1m,List.length_append]
    (simp only[go_sem,lk,Nat.reduceBEq,reduceLT,reduceAdd] <;> try simp)
    simp[cellsI]
   refine⟨fun hk=>⟨fun hm=>?_,fun hm g1=>⟨hcap,fun A3 c3=>⟨((i+1:Nat):Int),ArOk.to (by omega) (by omega) (by omega),fin x A3 c3 _ _ ?_ (by (simp only[go_sem,lk,Nat.reduceBEq,reduceLT,reduceAdd] <;> try simp)) (by (simp only[go_sem,lk,Nat.reduceBEq,reduceLT,reduceAdd] <;> try simp); rfl)⟩⟩⟩,fun hk g1=>⟨hcap,fun A3 c3=>⟨((i+1:Nat):Int),ArOk.to (by omega) (by omega) (by omega),fin x A3 c3 _ _ ?_ (by (simp only[go_sem,lk,Nat.reduceBEq,reduceLT,reduceAdd] <;> try simp)) (by (simp only[go_sem,lk,Nat.reduceBEq,reduceLT,reduceAdd] <;> try simp); rfl)⟩⟩⟩
   rotate_left
   ·have hm:=of_decide_eq_false hm
    unfold adjI; rw[if_neg (by omega)]
   ·have hk:goK x=0:=by simpa using hk
    unfold adjI; rw[if_neg (by simp[hk])]
   have hk:goK x ≠ 0:=by simpa using hk
   have hm:=of_decide_eq_true hm
   have h0:=zj1q hk
   refine zj04 (α:=Nat) (fun k=>k≤x.imm.toNat) (fun _=>⟨w,w.heap.size,[],56,[]⟩) (fun k=>{ F:=[(0,.val (.slice A l.length c)),(1,.val (.slice B l.length d)),(5,.own 0 0),(6,.val (.int .i64 (i:Int))),(7,.ptr 1 0),(8,.val (.int .i64 (goK x))),(9,.val (.int .i64 ((leftN (gB g) k:Nat):Int))),(10,.val (.int .i64 (k:Int)))],H:=[.own 41 0 5 A2 (dropTo (gB g) l i).length c2 (cellsI (dropTo (gB g) l i)),.cells gx 41 (In.sv x)] }) (fun k=>x.imm.toNat - k) (fun _=>rfl) ?start2 ?round2
   case start2 =>
    intro a W rep
    exact⟨0,Nat.zero_le _,rep.le (by (simp only[go_sem,lk,Nat.reduceBEq,reduceLT,reduceAdd] <;> try simp); rfl) (by simp only[In.sv]; (simp only[go_sem,lk,Nat.reduceBEq,reduceLT,reduceAdd] <;> try simp))⟩
   case round2 =>
    intro k hk2 I2 again2
    have hk2:k≤x.imm.toNat:=hk2
    have hlk:=zj25 (gB g) k
    (refine Y_go 600 ?_; dsimp only[go_sem,In.sv,Nat.reduceBEq,reduceAdd,Nat.reduceMul])
    refine⟨fun h3=>?_,fun h3 g1=>⟨hcap,fun A3 c3=>⟨((i+1:Nat):Int),ArOk.to (by omega) (by omega) (by omega),fin { x with imm:=(leftN (gB g) k:Nat) } A3 c3 _ _ ?_ (by (simp only[go_sem,lk,Nat.reduceBEq,reduceLT,reduceAdd] <;> try simp)) (by (simp only[go_sem,lk,Nat.reduceBEq,reduceLT,reduceAdd] <;> try simp); rfl)⟩⟩⟩
    ·have h3:k < x.imm.toNat:=by have:=of_decide_eq_true h3; omega
     have hkl:k < l.length:=by omega
     have hk1:((k:Nat):Int).toNat=k:=by omega
     rw[hk1]
     refine⟨⟨by omega,by omega,gs hkl⟩,gB g k,gc hkl,fun hb2=>⟨_,.add64 (by omega) (by omega),_,.add64 (by omega) (by omega),?_⟩,fun hb2=>⟨_,.add64 (by omega) (by omega),?_⟩⟩
     all_goals refine zj00 fun a W rep=>again2 (k+1) (by show k+1≤_; omega) (by show x.imm.toNat - (k+1) < x.imm.toNat - k; omega) a W (rep.le ?_ (by simp only[In.sv]; (simp only[go_sem,lk,Nat.reduceBEq,reduceLT,reduceAdd] <;> try simp)))
     ·have:leftN (gB g) (k+1)=leftN (gB g) k+1:=by simp[leftN]; simpa using hb2
      rw[this]; (simp only[go_sem,lk,Nat.reduceBEq,reduceLT,reduceAdd] <;> try simp)
     ·have:leftN (gB g) (k+1)=leftN (gB g) k:=by simp[leftN]; simpa using hb2
      rw[this]; (simp only[go_sem,lk,Nat.reduceBEq,reduceLT,reduceAdd] <;> try simp)
    ·have h3:k=x.imm.toNat:=by have:=of_decide_eq_false h3; omega
     subst h3
     unfold adjI; rw[if_pos ⟨hk,hm⟩]
theorem zj4y {g g':Nat→Bool}:∀ n,(∀ k,k < n→g k=g' k)→leftN g n=leftN g' n
 | 0,_=>rfl
 | n+1,h=>by simp only[leftN,zj4y n (fun k hk=>h k (by omega)),h n (by omega)]
theorem adjI_congr {g g':Nat→Bool} {n:Nat} (h:∀ k,k < n→g k=g' k) (x:In):adjI g n x=adjI g' n x:=by
 unfold adjI
 split
 ·rename_i hx
  have h0:=zj1q hx.1
  rw[zj4y _ fun k hk=>h k (by omega)]
 ·rfl
theorem zj4f {g g':Nat→Bool} {l:List In} (h:∀ k,k < l.length→g k=g' k):∀ i,i≤l.length→dropTo g l i=dropTo g' l i
 | 0,_=>rfl
 | i+1,hi=>by
  have hx:l[i]? = some (l[i]'(by omega)):=List.getElem?_eq_getElem (by omega)
  simp only[dropTo,zj4f h i (by omega),hx,h i (by omega),adjI_congr h]
theorem zj4z {g g':Nat→Bool} {l:List In} (h:∀ k,k < l.length→g k=g' k):dropP g l=dropP g' l:=zj4f h _ (Nat.le_refl _)
def gl (f:Nat→Bool) (n i:Nat):List Bool:=(List.range n).map fun k=>decide (k < i) && f k
theorem gl_len (f:Nat→Bool) (n i:Nat):(gl f n i).length=n:=by simp[gl]
theorem gl_get (f:Nat→Bool) (n i k:Nat) (hk:k < n):gB (gl f n i) k=(decide (k < i) && f k):=by
 simp[gB,gl,List.getD,hk]
theorem gl_zero (f:Nat→Bool) (n:Nat):repN n [Value.bool false]=bV (gl f n 0):=by
 have:gl f n 0=List.replicate n false:=by
  refine List.ext_getElem (by simp[gl]) fun i h1 h2=>?_
  simp[gl]
 rw[this,bV,List.map_replicate]
 clear this
 induction n with
 | zero=>rfl
 | succ n ih=>simp only[repN,List.replicate_succ,ih]; rfl
theorem bV_set {o:List Bool} {j:Nat} {b:Bool}:setn (bV o) j (.bool b)=bV (o.set j b):=by
 rw[zj0e]; unfold bV; rw[List.map_set]
theorem gl_set (f:Nat→Bool) (n i:Nat):setn (bV (gl f n i)) i (.bool (f i))=bV (gl f n (i+1)):=by
 rw[bV_set]
 congr 1
 refine List.ext_getElem (by simp[gl]) fun k h1 h2=>?_
 rw[List.getElem_set]
 simp only[gl,List.getElem_map,List.getElem_range]
 split
 ·rename_i e; subst e; simp
 ·rename_i e
  have:decide (k < i+1)=decide (k < i):=by rw[decide_eq_decide]; omega
  rw[this]
theorem drop_gl (f:Nat→Bool) (l:List In):dropP (gB (gl f l.length l.length)) l=dropP f l :=
 zj4z fun k hk=>by rw[gl_get _ _ _ _ hk]; simp[hk]
structure S63 where
 r:Nat
 m:List In
 A:Option Addr
 c:Nat
theorem skip63 (A:Option Addr) (c:Nat) (l:List In) (w:World) (hA:RowAt w A (cellsI l)) (hl:l.length≤2000) :
  CallsV Tryz.prog 63 [.slice A l.length c] w fun v w'=>World.ownsB w' w.heap.size 41 5 v (skipL l).length (cellsI (skipL l))∧Fresh w w':=by
 refine zj03 (keep:=K63) (nt:=49) (svs:=[.val (.slice A l.length c)]) Tryz.func63 x63 n63 (by simp) (by simp[IsL,Is]) fun R hR=>?_
 (refine Y_go 600 ?_; dsimp only[go_sem,reduceAdd,Nat.reduceBEq])
 refine zj16 (vs:=[.slice A l.length c]) rfl (fun W hW=>twin29 A c l W (hA.keep hW.fresh') (by omega)) fun A1 c1=>?_
 (refine Y_go 600 ?_; dsimp only[go_sem,Nat.reduceBEq])
 refine zj04 (α:=S63) (fun y=>y.r≤l.length+1∧y.m=skipN y.r l) (fun _=>⟨w,w.heap.size,[],49,[]⟩) (fun y=>{ F:=[(0,.val (.slice A l.length c)),(3,.own 0 0),(4,.val (.int .i64 (y.r:Int)))],H:=[.own 41 0 5 y.A y.m.length y.c (cellsI y.m)] }) (fun y=>l.length+1 - y.r) (fun _=>rfl) ?start ?round
 case start =>
  intro a W rep
  exact⟨⟨0,l,A1,c1⟩,⟨Nat.zero_le _,rfl⟩,rep.lq⟩
 case round =>
  rintro ⟨r,m,A2,c2⟩ ⟨hr,hm⟩ I again
  have hr:r≤l.length+1:=hr
  have hm:m=skipN r l:=hm
  have hml:m.length≤l.length:=by rw[hm]; exact zj3o _ _
  (refine Y_go 600 ?_; dsimp only[go_sem,Nat.reduceBEq,reduceAdd])
  refine⟨fun hlt=>?_,fun hge=>?_⟩
  rotate_left
  ·have hrl:r=l.length+1:=by have:=of_decide_eq_false hge; omega
   subst hrl
   refine zj02 (vs:=[_]) r63 rfl rfl fun W hW=>hR _ _ ⟨?_,hW.fresh'⟩
   have:=hW.owns (i:=0) rfl
   rw[← zj7w (n:=l.length+1) (by omega),← hm]
   exact this
  have hlt:r≤l.length:=by have:=of_decide_eq_true hlt; omega
  have hn1:((m.length:Nat):Int).toNat=m.length:=by omega
  refine⟨⟨by omega,by omega,by omega,by omega⟩,fun g=>?_⟩
  rw[hn1,gl_zero (skipB m)]
  refine zj04 (α:=Nat) (fun i=>i≤m.length) (fun _=>⟨w,w.heap.size,[],49,[]⟩) (fun i=>{ F:=[(0,.val (.slice A l.length c)),(3,.own 0 0),(4,.val (.int .i64 (r:Int))),(5,.own 1 0),(6,.val (.int .i64 (i:Int)))],H:=[.own 41 0 5 A2 m.length c2 (cellsI m),.own 4 0 1 (some ⟨g,0,none⟩) m.length m.length (bV (gl (skipB m) m.length i))] }) (fun i=>m.length - i) (fun _=>rfl) ?start2 ?round2
  case start2 =>
   intro a W rep
   exact⟨0,Nat.zero_le _,rep.lq⟩
  case round2 =>
   intro i hi I2 again2
   have hi:i≤m.length:=hi
   (refine Y_go 600 ?_; dsimp only[go_sem,Nat.reduceBEq])
   refine⟨fun hlt=>?_,fun hge=>?_⟩
   ·have hlt:i < m.length:=by have:=of_decide_eq_true hlt; omega
    have hi1:((i:Nat):Int).toNat=i:=by omega
    have hx:m[i]? = some m[i]:=List.getElem?_eq_getElem hlt
    have cl:∀ k v,k < 5→(m[i]).cells[k]? = some v→(cellsI m)[i*5+k]? = some v:=fun k v hk hv=>by rw[zj0b m hlt hk]; exact hv
    generalize m[i]=x at hx cl
    rw[hi1]
    refine⟨⟨by omega,by omega⟩,x.op,cl 0 _ (by omega) rfl,x.a,cl 1 _ (by omega) rfl,x.b,cl 2 _ (by omega) rfl,x.c,cl 3 _ (by omega) rfl,x.imm,cl 4 _ (by omega) rfl,?_⟩
    refine zj01 (vs:=[In.val x]) rfl (fun W hW=>goes93 x W) fun v hv=>⟨.val (.int .i64 (goK x)),by rw[hv]; simp[Is],?_⟩
    have hgs:∀ b,skipB m i=b→setn (bV (gl (skipB m) m.length i)) i (.bool b)=bV (gl (skipB m) m.length (i+1)):=fun b hb=>by rw[← hb]; exact gl_set _ _ _
    have hsk:skipB m i=decide (goK x=1∧x.imm=(i:Int)+1):=by unfold skipB; rw[hx]
    (refine Y_go 600 ?_; dsimp only[go_sem,Nat.reduceBEq])
    rw[hi1,Nat.mul_one]
    have nxt:∀ b,skipB m i=b→∀ F,leF 2 F [(0,.val (.slice A l.length c)),(3,.own 0 0),(4,.val (.int .i64 (r:Int))),(5,.own 1 0),(6,.val (.int .i64 ((i+1:Nat):Int)))]→G (cxOf Tryz.prog Tryz.f63 K63 T63 R) ⟨w,w.heap.size,[],49,[]⟩ [.lend I2,.blk 2,.code (.ref 4),.blk 1,.code (.ref 6),.lend I,.blk 0,.code (.ref 9)] { F:=F,H:=[.own 41 0 5 A2 m.length c2 (cellsI m),.own 4 0 1 (some ⟨g,0,none⟩) m.length m.length (setn (bV (gl (skipB m) m.length i)) i (.bool b))] }:=fun b hb F hF =>
     zj00 fun a W rep=>again2 (i+1) (by show i+1≤_; omega) (by show m.length - (i+1) < m.length - i; omega) a W (rep.le hF (by rw[hgs b hb]; (simp only[go_sem,lk,Nat.reduceBEq,reduceLT,reduceAdd] <;> try simp)))
    have hbl:i+1≤(bV (gl (skipB m) m.length i)).length:=by rw[bV_len,gl_len]; omega
    refine⟨fun h1=>⟨⟨by omega,by omega⟩,x.imm,cl 4 _ (by omega) rfl,((i:Int)+1),.add64 (by omega) (by omega),⟨by omega,by omega⟩,hbl,((i+1:Nat):Int),ArOk.to (by omega) (by omega) (by omega),nxt _ ?_ _ (by (simp only[go_sem,lk,Nat.reduceBEq,reduceLT,reduceAdd] <;> try simp))⟩,fun h1=>⟨⟨by omega,by omega⟩,hbl,((i+1:Nat):Int),ArOk.to (by omega) (by omega) (by omega),nxt _ ?_ _ (by (simp only[go_sem,lk,Nat.reduceBEq,reduceLT,reduceAdd] <;> try simp))⟩⟩
    ·have h1:goK x=1:=by simpa using h1
     rw[hsk,Bool.eq_iff_iff]; simp[h1]
    ·have h1:goK x ≠ 1:=by simpa using h1
     rw[hsk]; simp[h1]
   ·have hil:i=m.length:=by have:=of_decide_eq_false hge; omega
    subst hil
    refine zj16 (vs:=[.slice A2 m.length c2,.slice (some ⟨g,0,none⟩) m.length m.length]) rfl (fun W hW=>drop94 A2 (some ⟨g,0,none⟩) c2 m.length m (gl (skipB m) m.length m.length) W (hW.rowAt (i:=0) rfl) (hW.rowAt (i:=1) rfl) (by omega) (gl_len _ _ _)) fun A3 c3=>?_
    rw[drop_gl]
    (refine Y_go 600 ?_; dsimp only[go_sem,reduceAdd,Nat.reduceBEq])
    refine⟨((r+1:Nat):Int),ArOk.to (by omega) (by omega) (by omega),zj00 fun a W rep=>again ⟨r+1,skip1 m,A3,c3⟩ ⟨by show r+1≤_; omega,?_⟩ (by show l.length+1 - (r+1) < l.length+1 - r; omega) a W ((rep.pick [2] (by decide)).le (by (simp only[go_sem,renF,renV,renVL,renO,pickH,pickE,posOf,lk,Nat.reduceBEq,reduceLT,reduceAdd] <;> try simp)) (by (simp only[go_sem,renF,renV,renVL,renO,pickH,pickE,posOf,lk,Nat.reduceBEq,reduceLT,reduceAdd] <;> try simp); exact⟨rfl,rfl⟩))⟩
    show skip1 m=skipN (r+1) l
    rw[hm,skipN_succ']
end Go.Proofs.YtlbiogokpadaoaaGreatDoor
