/- The document's Print: where an instruction goes by a name. -/
import Derived.Test.YtaiajnehnjnadaaDoorLIrLaw4
import Derived.Test.YtaiajnehnjnadaaDoorLPrCode
import Derived.Test.YtaiajnehnjnadaaDoorLAsW1
import Derived.Test.YtaiajnehnjnadaaDoorSxJoin
set_option linter.unusedSimpArgs false
set_option linter.unusedVariables false
set_option linter.unnecessarySimpa false
namespace Go.Proofs.YtaiajnehnjnadaaDoor
open Go Go.Sx Go.Isa Go.Asm
open Nat (reduceAdd reduceLT)
set_option maxRecDepth 100000
theorem goes33 (op:Int) (w:World):CallsV Tryd.prog 33 [.int .i64 op] w fun v w'=>v=.bool (goOp op)∧Fresh w w':=by
 refine zj09 (keep:=K33) (nt:=9) (svs:=[.val (.int .i64 op)]) Tryd.func33 x33 n33 (by simp) (by simp[IsL,Is]) fun R hR=>?_
 have fin:∀ F H b,denAll H F [2]=some [.bool b]→b=goOp op→RetG (cxOf Tryd.prog Tryd.f33 K33 T33 R) ⟨w,w.heap.size,[],9,[]⟩ { F:=F,H:=H }:=fun F H b hd hb =>
  zj03 (vs:=[.bool b]) r33 rfl hd fun W hW=>hR _ _ ⟨by rw[hb]; rfl,hW.fresh'⟩
 (refine Y_go 600 ?_; dsimp only[go_sem,reduceAdd,Nat.reduceBEq])
 refine⟨fun h=>fin _ _ _ rfl ?_,fun h=>fin _ _ _ rfl ?_⟩
 ·have h:=of_decide_eq_true h
  unfold goOp; simp[h]
 ·have h:=of_decide_eq_false h
  unfold goOp; simp; omega
theorem zj2x (x:In) (n:Nat) (w:World) (hx:in64 x) (hn:n≤2000):CallsV Tryd.prog 20 [In.val x,.int .i64 (n:Int)] w fun v w'=>v=.tuple #[.int .i64 x.imm,.bool (tgtB x n)]∧Fresh w w':=by
 refine zj09 (keep:=K20) (nt:=38) (svs:=[.agg (In.sv x),.val (.int .i64 (n:Int))]) Tryd.func20 x20 n20 (by simp) (by simp only[IsL]; exact⟨_,_,In.is _ x,⟨_,_,rfl,rfl,rfl⟩,rfl⟩) fun R hR=>?_
 have done:∀ q:Bool,q=tgtB x n→∀ F H,denAll H F [4,5]=some [.int .i64 x.imm,.bool q]→RetG (cxOf Tryd.prog Tryd.f20 K20 T20 R) ⟨w,w.heap.size,[],38,[]⟩ { F:=F,H:=H }:=fun q hq F H hd =>
  zj03 (vs:=[.int .i64 x.imm,.bool q]) r20 rfl hd fun W hW=>hR _ _ ⟨by rw[hq]; rfl,hW.fresh'⟩
 have ht:tgtB x n=(goOp x.op && (legalB x && (decide (0≤x.imm) && (decide (x.imm≤n) && !Lib.hasPrefix (textL x) rawW)))):=rfl
 have htl:=zj21 hx
 (refine Y_go 600 ?_; dsimp only[go_sem,In.sv,reduceAdd,Nat.reduceBEq])
 intro g
 refine zj01 (vs:=[In.val x]) rfl (fun W hW=>text17 x W hx) fun v hv=>⟨.val (.string ⟨⟨textL x⟩⟩),by rw[hv]; simp[Is],?_⟩
 (refine Y_go 600 ?_; dsimp only[go_sem,Nat.reduceBEq,reduceAdd])
 cases hg:goOp x.op with
 | false =>
  refine zj01 (vs:=[.int .i64 x.op]) rfl (fun W hW=>goes33 x.op W) fun v hv=>⟨.bf,by rw[hv,hg]; simp[Is],?_⟩
  (refine Y_go 600 ?_; dsimp only[go_sem,Nat.reduceBEq,reduceAdd])
  refine zj01 (vs:=[In.val x]) rfl (fun W hW=>legal13 x W) fun v hv=>⟨.val (.bool (legalB x)),by rw[hv]; simp[Is],?_⟩
  (refine Y_go 600 ?_; dsimp only[go_sem,Nat.reduceBEq,reduceAdd])
  exact done false (by rw[ht,hg]; rfl) _ _ rfl
 | true =>
  obtain⟨ch,rs,htx,hpf⟩:=tgt_head hg
  refine zj01 (vs:=[.int .i64 x.op]) rfl (fun W hW=>goes33 x.op W) fun v hv=>⟨.bt,by rw[hv,hg]; simp[Is],?_⟩
  (refine Y_go 600 ?_; dsimp only[go_sem,Nat.reduceBEq,reduceAdd])
  cases hl:legalB x with
  | false =>
   refine zj01 (vs:=[In.val x]) rfl (fun W hW=>legal13 x W) fun v hv=>⟨.bf,by rw[hv,hl]; simp[Is],?_⟩
   (refine Y_go 600 ?_; dsimp only[go_sem,Nat.reduceBEq,reduceAdd])
   exact done false (by rw[ht,hg,hl]; rfl) _ _ rfl
  | true =>
   refine zj01 (vs:=[In.val x]) rfl (fun W hW=>legal13 x W) fun v hv=>⟨.bt,by rw[hv,hl]; simp[Is],?_⟩
   (refine Y_go 600 ?_; dsimp only[go_sem,Nat.reduceBEq,reduceAdd,Int.reduceToNat])
   have hct:(ch == 114)=((ch.toNat:Int) == 114):=by
    rw[Bool.eq_iff_iff]
    simp only[beq_iff_eq]
    exact⟨fun h=>by rw[h]; rfl,fun h=>UInt8.toNat_inj.1 (show ch.toNat=114 by omega)⟩
   refine⟨Int.le_refl 0,ch,by rw[htx]; rfl,fun h1=>⟨fun h0=>?_,fun h0=>?_⟩,fun h1=>?_⟩
   ·have h0:0≤x.imm:=of_decide_eq_true h0
    have h1:((ch.toNat:Int) == 114)=false:=by simpa using h1
    exact done (decide (x.imm≤n)) (by rw[ht,hg,hl,hpf,hct,h1,decide_eq_true h0]; simp) _ _ rfl
   ·have h0:¬ 0≤x.imm:=of_decide_eq_false h0
    exact done false (by rw[ht,hg,hl,decide_eq_false h0]; rfl) _ _ rfl
   ·have h1:((ch.toNat:Int) == 114)=true:=by simpa using h1
    exact done false (by rw[ht,hg,hl,hpf,hct,h1]; simp) _ _ rfl
def bV (o:List Bool):List Value:=o.map Value.bool
theorem bV_get {o:List Bool} {j:Nat} (h:j < o.length):(bV o)[j]? = some (.bool (o.getD j false)):=by
 unfold bV
 rw[List.getElem?_map,List.getElem?_eq_getElem h]
 simp[List.getD,List.getElem?_eq_getElem h]
theorem bV_len (o:List Bool):(bV o).length=o.length:=by simp[bV]
theorem bV_set {o:List Bool} {j:Nat} {b:Bool}:setn (bV o) j (.bool b)=bV (o.set j b):=by
 rw[zj19]; unfold bV; rw[List.map_set]
def mkD (l:List In) (i:Nat):List Bool:=(List.range (l.length+1)).map fun k:Nat=>mkB l (l.take i) k
theorem zj23 (l:List In) (i:Nat):(mkD l i).length=l.length+1:=by simp[mkD]
theorem mkD_zero (l:List In):repN (l.length+1) [Value.bool false]=bV (mkD l 0):=by
 apply List.ext_getElem?
 intro j
 rcases Nat.lt_or_ge j (l.length+1) with h | h
 ·rw[zj3o _ _ _ (by simpa using h),bV_get (by rw[zj23]; exact h)]
  simp[mkD,mkB,h,List.getD,Nat.mod_one]
 ·rw[List.getElem?_eq_none (by rw[zj0v]; simpa using h),List.getElem?_eq_none (by rw[bV_len,zj23]; exact h)]
theorem mkD_get (l:List In) (i k:Nat) (h:k≤l.length):(mkD l i).getD k false=mkB l (l.take i) k:=by
 unfold mkD
 rw[List.getD_eq_getElem?_getD,List.getElem?_map,List.getElem?_range (by omega)]
 rfl
theorem mkD_same {l:List In} {i:Nat} {x:In} (hx:l[i]? = some x) (ht:tgtB x l.length=false):mkD l (i+1)=mkD l i:=by
 unfold mkD
 refine List.map_congr_left fun k _=>?_
 unfold mkB
 rw[List.take_add_one,hx,List.any_append]
 simp[ht]
theorem mkD_set {l:List In} {i:Nat} {x:In} (hx:l[i]? = some x) (ht:tgtB x l.length=true) (h0:0≤x.imm):(mkD l i).set x.imm.toNat true=mkD l (i+1):=by
 apply List.ext_getElem?
 intro k
 rcases Nat.lt_or_ge k (l.length+1) with h | h
 ·have e:mkB l (l.take (i+1)) k=(mkB l (l.take i) k || x.imm == (k:Int)):=by
   unfold mkB
   rw[List.take_add_one,hx,List.any_append]
   simp[ht]
  have hk1:(mkD l (i+1))[k]? = some (mkB l (l.take (i+1)) k):=by unfold mkD; rw[List.getElem?_map,List.getElem?_range h]; rfl
  have hk0:(mkD l i)[k]? = some (mkB l (l.take i) k):=by unfold mkD; rw[List.getElem?_map,List.getElem?_range h]; rfl
  rw[hk1,e]
  by_cases q:x.imm.toNat=k
  ·rw[List.getElem?_set,if_pos q,if_pos (by rw[zj23]; omega)]
   have:(x.imm == (k:Int))=true:=by simp; omega
   rw[this,Bool.or_true]
  ·rw[List.getElem?_set_ne q,hk0]
   have:(x.imm == (k:Int))=false:=by simp; omega
   rw[this,Bool.or_false]
 ·rw[List.getElem?_eq_none (by rw[List.length_set,zj23]; exact h),List.getElem?_eq_none (by rw[zj23]; exact h)]
theorem tgt_imm {x:In} {n:Nat} (h:tgtB x n=true):0≤x.imm∧x.imm≤n:=by
 unfold tgtB at h
 simp only[Bool.and_eq_true,decide_eq_true_eq] at h
 exact⟨h.2.2.1,h.2.2.2.1⟩
theorem print8 (l:List In) (A:Option Addr) (c:Nat) (w:World) (hx:∀ x ∈ l,in64 x) (hA:RowAt w A (cellsI l)) (hl:l.length≤1024) :
  CallsV Tryd.prog 8 [.slice A l.length c] w fun v w'=>v=.tuple #[.string ⟨⟨printL l⟩⟩,.int .i64 0]∧Fresh w w':=by
 refine zj09 (keep:=K8) (nt:=98) (svs:=[.val (.slice A l.length c)]) Tryd.func8 x8 n8 (by simp) (by simp[IsL,Is]) fun R hR=>?_
 (refine Y_go 600 ?_; dsimp only[go_sem,reduceAdd,Nat.reduceBEq])
 refine⟨fun h=>absurd (of_decide_eq_true h) (by omega),fun _=>⟨((l.length+1:Nat):Int),ArOk.to (by omega) (by omega) (by omega),⟨by omega,by omega,by omega,by omega⟩,fun g=>?_⟩⟩
 rw[show ((l.length+1:Nat):Int).toNat=l.length+1 by omega,mkD_zero]
 have hcell:∀ (i k:Nat) (v:Value) (x:In),l[i]? = some x→k < 5→x.cells[k]? = some v→CellAt ⟨w,w.heap.size,[],98,[]⟩ A (i*5+k) v:=fun i k v x hi hk hv=>by
  obtain⟨h1,h2⟩:=List.getElem?_eq_some_iff.1 hi
  exact hA.cell (by rw[zj1z l h1 hk,h2]; exact hv)
 refine zj1b (α:=Nat) (fun i=>i≤l.length) (fun _=>⟨w,w.heap.size,[],98,[]⟩) (fun i=>{ F:=[(0,.val (.slice A l.length c)),(4,.own 0 0),(5,.val (.int .i64 (i:Int)))],H:=[.own 4 0 1 (some ⟨g,0,none⟩) (l.length+1) (l.length+1) (bV (mkD l i))] }) (fun i=>l.length - i) (fun _=>rfl) ?start ?round
 case start =>
  intro a W rep
  exact⟨0,Nat.zero_le _,rep.lq⟩
 case round =>
  intro i hi I again
  have hi:i≤l.length:=hi
  have hi1:((i:Nat):Int).toNat=i:=by omega
  (refine Y_go 600 ?_; dsimp only[go_sem,Nat.reduceBEq])
  refine⟨fun hlt=>?_,fun hge=>?_⟩
  ·have hlt:i < l.length:=by have:=of_decide_eq_true hlt; omega
   have hz:l[i]? = some l[i]:=List.getElem?_eq_getElem hlt
   have h64:=hx _ (List.getElem_mem hlt)
   generalize l[i]=x at hz h64
   have sA:=hA.isSome (j:=i*5) (by rw[zj0w]; omega)
   rw[hi1]
   refine⟨⟨by omega,by omega,sA⟩,_,hcell i 0 _ x hz (by omega) rfl,_,hcell i 1 _ x hz (by omega) rfl,_,hcell i 2 _ x hz (by omega) rfl,_,hcell i 3 _ x hz (by omega) rfl,_,hcell i 4 _ x hz (by omega) rfl,?_⟩
   cases ht:tgtB x l.length with
   | false =>
    refine zj01 (vs:=[In.val x,.int .i64 (l.length:Int)]) rfl (fun W hW=>zj2x x l.length W h64 (by omega)) fun v hv=>⟨.tup [.val (.int .i64 x.imm),.bf],by rw[hv,ht]; simp[Is,IsL],?_⟩
    (refine Y_go 600 ?_; dsimp only[go_sem,Nat.reduceBEq])
    exact⟨((i+1:Nat):Int),ArOk.to (by omega) (by omega) (by omega),zj04 fun a W rep=>again (i+1) (by show i+1≤_; omega) (by show _ - (i+1) < _ - i; omega) a W (rep.le (by (simp only[go_sem,lk,Nat.reduceBEq,reduceLT,reduceAdd] <;> try simp)) (by rw[mkD_same hz ht]; (simp only[go_sem,lk,Nat.reduceBEq,reduceLT,reduceAdd] <;> try simp)))⟩
   | true =>
    obtain⟨h0,h1⟩:=tgt_imm ht
    refine zj01 (vs:=[In.val x,.int .i64 (l.length:Int)]) rfl (fun W hW=>zj2x x l.length W h64 (by omega)) fun v hv=>⟨.tup [.val (.int .i64 x.imm),.bt],by rw[hv,ht]; simp[Is,IsL],?_⟩
    (refine Y_go 600 ?_; dsimp only[go_sem,Nat.reduceBEq])
    exact⟨⟨h0,by omega⟩,by rw[bV_len,zj23]; omega,((i+1:Nat):Int),ArOk.to (by omega) (by omega) (by omega),zj04 fun a W rep=>again (i+1) (by show i+1≤_; omega) (by show _ - (i+1) < _ - i; omega) a W (rep.le (by (simp only[go_sem,lk,Nat.reduceBEq,reduceLT,reduceAdd] <;> try simp)) (by rw[← mkD_set hz ht h0,← bV_set,Nat.mul_one]; (simp only[go_sem,lk,Nat.reduceBEq,reduceLT,reduceAdd] <;> try simp)))⟩
  ·have hie:i=l.length:=by have:=of_decide_eq_false hge; omega
   subst hie
   refine zj1b (α:=Nat) (fun i=>i≤l.length) (fun _=>⟨w,w.heap.size,[],98,[]⟩) (fun i=>{ F:=[(0,.val (.slice A l.length c)),(4,.own 0 0),(8,.val (.string ⟨⟨prL l i⟩⟩)),(9,.val (.int .i64 (i:Int)))],H:=[.own 4 0 1 (some ⟨g,0,none⟩) (l.length+1) (l.length+1) (bV (mkD l l.length))] }) (fun i=>l.length+1 - i) (fun _=>rfl) ?start2 ?round2
   case start2 =>
    intro a W rep
    exact⟨0,Nat.zero_le _,rep.le (by (simp only[go_sem,lk,Nat.reduceBEq,reduceLT,reduceAdd] <;> try simp); rfl) (by (simp only[go_sem,lk,Nat.reduceBEq,reduceLT,reduceAdd] <;> try simp))⟩
   case round2 =>
    intro i hi I2 again2
    have hi:i≤l.length:=hi
    have hi1:((i:Nat):Int).toNat=i:=by omega
    have hpl:=prL_len hx i (by omega)
    have hlab:=zj3y l i (by omega)
    have rest:∀ acc:B,acc=prL l i++labL l i→G (cxOf Tryd.prog Tryd.f8 K8 T8 R) ⟨w,w.heap.size,[],98,[]⟩ [.code (.ref 16),.blk 3,.code (.ref 17),.lend I2,.blk 2,.code (.ref 20)] { F:=[(0,.val (.slice A l.length c)),(4,.own 0 0),(8,.val (.string ⟨⟨acc⟩⟩)),(9,.val (.int .i64 (i:Int)))],H:=[.own 4 0 1 (some ⟨g,0,none⟩) (l.length+1) (l.length+1) (bV (mkD l l.length))] }:=by
     intro acc hacc
     have hal:acc.length≤300000:=by rw[hacc,List.length_append]; omega
     (refine Y_go 600 ?_; dsimp only[go_sem,Nat.reduceBEq])
     refine⟨fun he=>?_,fun hne=>?_⟩
     ·have he:(i:Int)=(l.length:Int):=by simpa using he
      have he:i=l.length:=by omega
      subst he
      exact zj03 (vs:=[.string ⟨⟨printL l⟩⟩,.int .i64 0]) r8 rfl (by rw[show printL l=acc from hacc.symm]; rfl) fun W hW=>hR _ _ ⟨rfl,hW.fresh'⟩
     ·have hne:(i:Int) ≠ (l.length:Int):=by simpa using hne
      have hlt:i < l.length:=by omega
      have hz:l[i]? = some l[i]:=List.getElem?_eq_getElem hlt
      have h64:=hx _ (List.getElem_mem hlt)
      generalize l[i]=x at hz h64
      have sA:=hA.isSome (j:=i*5) (by rw[zj0w]; omega)
      have htl:=zj21 h64
      rw[hi1]
      refine⟨⟨by omega,by omega,sA⟩,_,hcell i 0 _ x hz (by omega) rfl,_,hcell i 1 _ x hz (by omega) rfl,_,hcell i 2 _ x hz (by omega) rfl,_,hcell i 3 _ x hz (by omega) rfl,_,hcell i 4 _ x hz (by omega) rfl,?_⟩
      refine zj01 (vs:=[In.val x]) rfl (fun W hW=>text17 x W h64) fun v hv=>⟨.val (.string ⟨⟨textL x⟩⟩),by rw[hv]; simp[Is],?_⟩
      (refine Y_go 600 ?_; dsimp only[go_sem,Nat.reduceBEq])
      refine⟨⟨by omega,by omega,sA⟩,_,hcell i 0 _ x hz (by omega) rfl,_,hcell i 1 _ x hz (by omega) rfl,_,hcell i 2 _ x hz (by omega) rfl,_,hcell i 3 _ x hz (by omega) rfl,_,hcell i 4 _ x hz (by omega) rfl,?_⟩
      cases ht:tgtB x l.length with
      | false =>
       have hlin:linL l.length x=textL x++[10]:=by unfold linL; rw[if_neg (by simp[ht])]
       refine zj01 (vs:=[In.val x,.int .i64 (l.length:Int)]) rfl (fun W hW=>zj2x x l.length W h64 (by omega)) fun v hv=>⟨.tup [.val (.int .i64 x.imm),.bf],by rw[hv,ht]; simp[Is,IsL],?_⟩
       (refine Y_go 600 ?_; dsimp only[go_sem,Nat.reduceBEq])
       refine⟨by first | (rw[zj00,zj00]; omega) | (simp[ByteArray.size]; omega),by first | (rw[zj02,zj00,zj00]; simp; omega) | (simp[ByteArray.size]; omega),?_⟩
       simp only[zj02]
       exact⟨((i+1:Nat):Int),ArOk.to (by omega) (by omega) (by omega),zj04 fun a W rep=>again2 (i+1) (by show i+1≤_; omega) (by show _ - (i+1) < _ - i; omega) a W (rep.le (by rw[zj3z hz,← hacc,hlin,← List.append_assoc]; (simp only[go_sem,lk,Nat.reduceBEq,reduceLT,reduceAdd] <;> try simp)) (by (simp only[go_sem,lk,Nat.reduceBEq,reduceLT,reduceAdd] <;> try simp)))⟩
      | true =>
       obtain⟨k0,hk0⟩:=tgt_last ht
       obtain⟨hk1,hk2,hk3⟩:=zj18 hk0
       have hit:=Lib.itoa_length_le x.imm h64.2.2.2.2.1 h64.2.2.2.2.2
       refine zj01 (vs:=[In.val x,.int .i64 (l.length:Int)]) rfl (fun W hW=>zj2x x l.length W h64 (by omega)) fun v hv=>⟨.tup [.val (.int .i64 x.imm),.bt],by rw[hv,ht]; simp[Is,IsL],?_⟩
       (refine Y_go 600 ?_; dsimp only[go_sem,Nat.reduceBEq])
       refine zj1b (α:=Nat) (fun k=>k0+1≤k∧k≤(textL x).length) (fun _=>⟨w,w.heap.size,[],98,[]⟩) (fun k=>{ F:=[(0,.val (.slice A l.length c)),(4,.own 0 0),(8,.val (.string ⟨⟨acc⟩⟩)),(9,.val (.int .i64 (i:Int))),(10,.val (.string ⟨⟨textL x⟩⟩)),(11,.val (.int .i64 x.imm)),(13,.val (.int .i64 (k:Int)))],H:=[.own 4 0 1 (some ⟨g,0,none⟩) (l.length+1) (l.length+1) (bV (mkD l l.length))] }) (fun k=>k) (fun _=>rfl) ?start3 ?round3
       case start3 =>
        intro a W rep
        exact⟨(textL x).length,⟨by omega,Nat.le_refl _⟩,rep.le (by simp only[zj00]; (simp only[go_sem,lk,Nat.reduceBEq,reduceLT,reduceAdd] <;> try simp)) (by (simp only[go_sem,lk,Nat.reduceBEq,reduceLT,reduceAdd] <;> try simp))⟩
       case round3 =>
        rintro k ⟨hka,hkb⟩ I3 again3
        (refine Y_go 600 ?_; dsimp only[go_sem,Nat.reduceBEq,Int.reduceToNat])
        have hkp:0 < k:=by omega
        have hkg:(textL x)[k - 1]? = some (textL x)[k - 1]:=List.getElem?_eq_getElem (by omega)
        have hkc:∀ u:UInt8,((u.toNat:Int) != 32)=false→u=32:=fun u hu=>by
         have:(u.toNat:Int)=32:=by simpa using hu
         exact UInt8.toNat_inj.1 (show u.toNat=32 by omega)
        have hkd:∀ u:UInt8,((u.toNat:Int) != 32)=true→u ≠ 32:=fun u hu he=>by
         rw[he] at hu; exact absurd hu (by decide)
        have hpos:(textL x)[k - 1]=32→k=k0+1:=fun he=>Classical.byContradiction fun hc=>hk3 (k - 1) (by omega) (by omega) he
        have hneg:(textL x)[k - 1] ≠ 32→k ≠ k0+1:=fun hne hc=>by
         have hq:k - 1=k0:=by omega
         simp only[hq] at hne
         exact hne hk2
        generalize (textL x)[k - 1]=u at hkg hpos hneg
        refine⟨((k - 1:Nat):Int),ArOk.toSub (by omega) (by omega) (by omega),by omega,u,by rw[show ((k - 1:Nat):Int).toNat=k - 1 by omega,ba_get]; exact hkg,fun hu=>?_,fun hu=>?_⟩
        ·have:=hneg (hkd u hu)
         exact⟨((k - 1:Nat):Int),ArOk.toSub (by omega) (by omega) (by omega),zj04 fun a W rep=>again3 (k - 1) ⟨by omega,by omega⟩ (by show k - 1 < k; omega) a W (rep.lq)⟩
        ·have hke:=hpos (hkc u hu)
         subst hke
         refine⟨⟨by omega,by omega,by first | (rw[zj00]; omega) | (simp[ByteArray.size]; omega)⟩,?_⟩
         rw[show ((k0+1:Nat):Int).toNat=k0+1 by omega,zj3x]
         refine⟨by first | (rw[zj00,zj00,List.length_take]; simp; omega) | (simp[ByteArray.size]; omega),?_⟩
         simp only[zj02]
         refine zj01 (vs:=[.int .i64 x.imm]) rfl (fun W hW=>zj0d x.imm W h64.2.2.2.2.1 h64.2.2.2.2.2) fun v hv=>⟨.val (.string ⟨⟨Lib.itoa x.imm⟩⟩),by rw[hv]; simp[Is],?_⟩
         (refine Y_go 600 ?_; dsimp only[go_sem,Nat.reduceBEq])
         have hlin:linL l.length x=((textL x).take (k0+1)++[108]++Lib.itoa x.imm)++[10]:=by unfold linL upTo; rw[if_pos ht,hk0]; simp
         have htk:((textL x).take (k0+1)).length≤120:=by rw[List.length_take]; omega
         refine⟨by first | (rw[zj00,zj00]; simp; omega) | (simp[ByteArray.size]; omega),by first | (rw[zj02,zj00,zj00]; simp; omega) | (simp[ByteArray.size]; omega),by first | (rw[zj02,zj02,zj00,zj00]; simp; omega) | (simp[ByteArray.size]; omega),((i+1:Nat):Int),ArOk.to (by omega) (by omega) (by omega),?_⟩
         simp only[zj02]
         exact zj04 fun a W rep=>again2 (i+1) (by show i+1≤_; omega) (by show _ - (i+1) < _ - i; omega) a W (rep.le (by rw[zj3z hz,← hacc,hlin,← List.append_assoc]; (simp only[go_sem,lk,Nat.reduceBEq,reduceLT,reduceAdd] <;> try simp)) (by (simp only[go_sem,lk,Nat.reduceBEq,reduceLT,reduceAdd] <;> try simp)))
    (refine Y_go 22 ?_; dsimp only[go_sem,Nat.reduceBEq,Y_0])
    refine⟨fun _=>⟨⟨by omega,by omega⟩,mkB l l i,?_,?_⟩,fun h=>absurd (of_decide_eq_false h) (by omega)⟩
    ·rw[hi1,Nat.mul_one,bV_get (by rw[zj23]; omega),mkD_get l l.length i hi,List.take_length]
    ·refine join_go fun J hJ=>?_
     (refine Y_go 600 ?_; dsimp only[go_sem,Nat.reduceBEq])
     refine⟨fun hm=>?_,fun hm=>?_⟩
     ·have hil:=Lib.itoa_length_le (i:Int) (by omega) (by omega)
      refine⟨by first | (rw[zj00,zj00]; simp; omega) | (simp[ByteArray.size]; omega),?_⟩
      simp only[zj02]
      refine zj01 (vs:=[.int .i64 (i:Int)]) rfl (fun W hW=>zj0d i W (by omega) (by omega)) fun v hv=>⟨.val (.string ⟨⟨Lib.itoa i⟩⟩),by rw[hv]; simp[Is],?_⟩
      (refine Y_go 600 ?_; dsimp only[go_sem,Nat.reduceBEq])
      refine⟨by first | (rw[zj00,zj00]; simp; omega) | (simp[ByteArray.size]; omega),by first | (rw[zj02,zj00,zj00]; simp; omega) | (simp[ByteArray.size]; omega),?_⟩
      simp only[zj02]
      exact zj04 fun a W rep=>hJ ⟨w,w.heap.size,[],98,[]⟩ _ rfl (rest (((prL l i++[108])++Lib.itoa i)++[58,10]) (by unfold labL; rw[if_pos hm]; simp)) a W (rep.lq)
     ·exact zj04 fun a W rep=>hJ ⟨w,w.heap.size,[],98,[]⟩ _ rfl (rest (prL l i) (by unfold labL; rw[if_neg (by simp[hm]),List.append_nil])) a W (rep.lq)
end Go.Proofs.YtaiajnehnjnadaaDoor
