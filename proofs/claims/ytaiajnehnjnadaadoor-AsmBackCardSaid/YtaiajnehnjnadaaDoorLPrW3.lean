/- asm.Print = printL. -/
import Derived.Test.YtaiajnehnjnadaaDoorLPrW1
set_option linter.unusedSimpArgs false
set_option linter.unusedVariables false
set_option linter.unnecessarySimpa false
namespace Go.Proofs.YtaiajnehnjnadaaDoor
open Go Go.Sx Go.Isa Go.Asm
open Nat (reduceAdd reduceLT)
set_option maxRecDepth 100000
def ops12v:List XS:=match T7n12 with
 | .seq (.ops (_ :: _ :: l)) _=>l
 | _=>[]
structure PrS where
 i:Nat
 p:Value
 v:Value
 r:Option (Nat × Obj)
theorem ok14:fnOk Tryd.prog 14=true:=by kernel_rfl
theorem print7 (l:List In) (A:Option Addr) (c:Nat) (w:World) (hx:∀ x ∈ l,in64 x) (hA:RowAt w A (cellsI l)) (hG:ShAt w) (hT:TabAt w) :
  CallsV Tryd.prog 7 [.slice A l.length c] w fun v w'=>v=(if 1024 < l.length then .tuple #[.string ⟨⟨[]⟩⟩,.int .i64 2] else .tuple #[.string ⟨⟨printL l⟩⟩,.int .i64 0])∧Fresh w w':=by
 refine zj08 (keep:=K7) (nt:=76) (svs:=[.val (.slice A l.length c)]) Tryd.func7 x7 n7 (by simp) (by simp[IsL,Is]) fun R hR=>?_
 (refine Y_go 600 ?_; dsimp only[go_sem,reduceAdd,Nat.reduceBEq])
 refine⟨fun h=>?_,fun h gm g4=>?_⟩
 ·have h:=of_decide_eq_true h
  exact zj04 (vs:=[.string ⟨⟨[]⟩⟩,.int .i64 2]) r7 rfl rfl fun W hW=>hR _ _ ⟨by rw[if_pos (by omega)]; rfl,hW.fresh'⟩
 have hl2:l.length≤1024:=by have:=of_decide_eq_false h; omega
 have hcell:∀ (i k:Nat) (v:Value) (x:In),l[i]? = some x→k < 5→x.cells[k]? = some v→CellAt ⟨w,w.heap.size,[],76,[]⟩ A (i*5+k) v:=fun i k v x hi hk hv=>by
  obtain⟨h1,h2⟩:=List.getElem?_eq_some_iff.1 hi
  exact hA.cell (by rw[zj4c l h1 hk,h2]; exact hv)
 refine zj0x (α:=Nat) (fun i=>i≤l.length) (fun _=>⟨w,w.heap.size,[],76,[]⟩) (fun i=>{ F:=[(0,.val (.slice A l.length c)),(4,.ptr 1 0),(20,.val (.slice A l.length c)),(21,.val (.int .i64 (l.length:Int))),(22,.val (.int .i64 (i:Int)))],H:=[.map gm (mkM l.length (l.take i)),.cells g4 41 [.mp 0]] }) (fun i=>l.length - i) (fun _=>rfl) ?start ?round
 case start =>
  intro a W rep
  exact⟨0,Nat.zero_le _,rep.le (by (simp only[go_sem,lk,Nat.reduceBEq,reduceLT,reduceAdd] <;> try simp)) (by simp only[List.take_zero,show mkM l.length []=[] from rfl]; (simp only[go_sem,lk,Nat.reduceBEq,reduceLT,reduceAdd] <;> try simp))⟩
 case round =>
  intro i hi I again
  have hi:i≤l.length:=hi
  have hi1:((i:Nat):Int).toNat=i:=by omega
  (refine Y_go 600 ?_; dsimp only[go_sem,Nat.reduceBEq,reduceAdd])
  refine⟨fun hlt=>?_,fun hge=>?_⟩
  ·have hlt:i < l.length:=by have:=of_decide_eq_true hlt; omega
   have hz:l[i]? = some l[i]:=List.getElem?_eq_getElem hlt
   have h64:=hx _ (List.getElem_mem hlt)
   generalize l[i]=x at hz h64
   have sA:=hA.isSome (j:=i*5) (by rw[zj2d]; omega)
   have htk:l.take (i+1)=l.take i++[x]:=by rw[List.take_add_one,hz]; rfl
   have hnk:=nv_keys (mkM_ok l.length (l.take i)).1
   rw[hi1]
   refine⟨⟨by omega,by omega,sA⟩,_,hcell i 0 _ x hz (by omega) rfl,_,hcell i 1 _ x hz (by omega) rfl,_,hcell i 2 _ x hz (by omega) rfl,_,hcell i 3 _ x hz (by omega) rfl,_,hcell i 4 _ x hz (by omega) rfl,fun g6=>?_⟩
   cases ht:tgtB x l.length with
   | false =>
    refine zj00 (vs:=[In.val x,.int .i64 (l.length:Int)]) rfl (fun W hW=>zj3s x l.length W h64 (by omega) (hG.keep hW.fresh') (hT.keep hW.fresh')) fun v hv=>⟨.tup [.val (.int .i64 x.imm),.bf],by rw[hv,ht]; simp[Is,IsL],?_⟩
    (refine Y_go 600 ?_; dsimp only[go_sem,Nat.reduceBEq])
    exact⟨((i+1:Nat):Int),ArOk.to (by omega) (by omega) (by omega),zj01 fun a W rep=>again (i+1) (by show i+1≤_; omega) (by show _ - (i+1) < _ - i; omega) a W (rep.le (by (simp only[go_sem,lk,Nat.reduceBEq,reduceLT,reduceAdd] <;> try simp)) (by rw[htk,mkM_snoc]; simp only[mkS,ht]; (simp only[go_sem,lk,Nat.reduceBEq,reduceLT,reduceAdd] <;> try simp)))⟩
   | true =>
    refine zj00 (vs:=[In.val x,.int .i64 (l.length:Int)]) rfl (fun W hW=>zj3s x l.length W h64 (by omega) (hG.keep hW.fresh') (hT.keep hW.fresh')) fun v hv=>⟨.tup [.val (.int .i64 x.imm),.bt],by rw[hv,ht]; simp[Is,IsL],?_⟩
    (refine Y_go 600 ?_; dsimp only[go_sem,Nat.reduceBEq,reduceAdd])
    refine⟨hnk,((i+1:Nat):Int),ArOk.to (by omega) (by omega) (by omega),zj01 fun a W rep=>again (i+1) (by show i+1≤_; omega) (by show _ - (i+1) < _ - i; omega) a W (rep.le (by (simp only[go_sem,lk,Nat.reduceBEq,reduceLT,reduceAdd] <;> try simp)) (by rw[htk,mkM_snoc]; simp only[mkS,ht]; (simp only[go_sem,lk,Nat.reduceBEq,reduceLT,reduceAdd] <;> try simp)))⟩
  ·have hie:i=l.length:=by have:=of_decide_eq_false hge; omega
   subst hie
   rw[List.take_length]
   obtain⟨hmk,hmg⟩:=mkM_ok l.length l
   have hmk:=nv_keys hmk
   intro gb
   refine zj0x (α:=PrS) (fun s=>s.i≤l.length∧BOk 48 5 gb s.p s.v s.r (Lib.byteCells (prL l s.i))) (fun _=>⟨w,w.heap.size,[],76,[]⟩) (fun s=>{ F:=[(0,.val (.slice A l.length c)),(9,.ptr 2 0),(10,.fn (.func 14) [] [.ptr 1 0,.ptr 2 0]),(38,.val (.slice A l.length c)),(39,.val (.int .i64 (l.length:Int))),(40,.val (.int .i64 (s.i:Int)))],H:=prH gm (mkM l.length l) g4 gb s.p s.v []++[BR s.r] }) (fun s=>l.length - s.i) (fun _=>rfl) ?start2 ?round2
   case start2 =>
    intro a W rep
    refine⟨⟨0,.pointer none,.slice none 0 0,none⟩,⟨Nat.zero_le _,BOk.new 48 5 gb⟩,?_⟩
    exact (rep.toBld 2 rfl).le (by unfold prH; (simp only[go_sem,lk,Nat.reduceBEq,reduceLT,reduceAdd] <;> try simp)) (by unfold prH; (simp only[go_sem,lk,Nat.reduceBEq,reduceLT,reduceAdd] <;> try simp); rfl)
   case round2 =>
    rintro ⟨i,p,v,r⟩ ⟨hi2,hb⟩ I2 again2
    simp only at hi2 hb
    have hi3:((i:Nat):Int).toNat=i:=by omega
    have hpl:=prL_len hx i (by omega)
    unfold prH
    (refine Y_go 600 ?_; dsimp only[go_sem,Nat.reduceBEq,reduceAdd])
    refine⟨fun hlt=>?_,fun hge=>?_⟩
    ·have hlt:i < l.length:=by have:=of_decide_eq_true hlt; omega
     have hz:l[i]? = some l[i]:=List.getElem?_eq_getElem hlt
     have h64:=hx _ (List.getElem_mem hlt)
     generalize l[i]=x at hz h64
     have sA:=hA.isSome (j:=i*5) (by rw[zj2d]; omega)
     rw[hi3]
     refine⟨⟨by omega,by omega,sA⟩,_,hcell i 0 _ x hz (by omega) rfl,_,hcell i 1 _ x hz (by omega) rfl,_,hcell i 2 _ x hz (by omega) rfl,_,hcell i 3 _ x hz (by omega) rfl,_,hcell i 4 _ x hz (by omega) rfl,fun g12=>?_⟩
     have lab:G (cxOf Tryd.prog Tryd.f7 K7 T7 R) ⟨w,w.heap.size,[],76,[]⟩ [.ops ops12v,.code (.ref 11),.blk 3,.code (.ops [.mk (some 70) none (.k (.arith .add .i64 (.tmp 40) (.const (.int .i64 1)))),.mk (some 40) none (.k (.mov (.tmp 70)))]),.lend I2,.blk 2,.code (.ref 17)]
       { F:=[(0,.val (.slice A l.length c)),(9,.ptr 2 0),(10,.fn (.func 14) [] [.ptr 1 0,.ptr 2 0]),(12,.ptr 3 0),(38,.val (.slice A l.length c)),(39,.val (.int .i64 (l.length:Int))),(40,.val (.int .i64 (i:Int))),(45,.fn (.func 14) [] [.ptr 1 0,.ptr 2 0]),(46,.val (.int .i64 (i:Int)))],H:=prH gm (mkM l.length l) g4 gb p v [.cells g12 43 (In.sv x)]++[BR r] }:=by
      refine zj4a (prH gm (mkM l.length l) g4 gb p v [.cells g12 43 (In.sv x)]) (BR r) (x:=.tmp 45) (f:=14) (fst:=[]) (caps:=[.pointer (some ⟨g4,0,none⟩),.pointer (some ⟨gb,0,none⟩)]) (vs:=[.int .i64 (i:Int)]) ?_ rfl rfl ok14 rfl (fun W hW=>label14 w 76 [] gm (mkM l.length l) g4 gb p v [.cells g12 43 (In.sv x)] r (prL l i) i (mkB l l i) W (by omega) (by omega) hmk (hmg i) hb rfl rfl hT hW) fun u W' ⟨hu,p',v',r',hb',hW'⟩=>⟨.unk,prH gm (mkM l.length l) g4 gb p' v' [.cells g12 43 (In.sv x)]++[BR r'],by simp[Is],zj4b (H1:=prH gm (mkM l.length l) g4 gb p v [.cells g12 43 (In.sv x)]) (i:=2) rfl,hW',?_⟩
      ·show leF 4 _ _
       (simp only[go_sem,lk,Nat.reduceBEq,reduceLT,reduceAdd] <;> try simp)
      have hb':BOk 48 5 gb p' v' r' (Lib.byteCells (prL l i++labL l i)):=hb'
      clear hW' hu hb
      have hlin:=linL_len l.length h64
      have hlab:=zj57 l i (by omega)
      have wr:∀ s:B,s=linL l.length x→G (cxOf Tryd.prog Tryd.f7 K7 T7 R) ⟨w,w.heap.size,[],76,[]⟩ [.ops [.mk (some 69) none (.call 15 [.tmp 9,.tmp 68])],.blk 3,.code (.ops [.mk (some 70) none (.k (.arith .add .i64 (.tmp 40) (.const (.int .i64 1)))),.mk (some 40) none (.k (.mov (.tmp 70)))]),.lend I2,.blk 2,.code (.ref 17)]
        { F:=[(0,.val (.slice A l.length c)),(9,.ptr 2 0),(10,.fn (.func 14) [] [.ptr 1 0,.ptr 2 0]),(38,.val (.slice A l.length c)),(39,.val (.int .i64 (l.length:Int))),(40,.val (.int .i64 (i:Int))),(68,.val (.string ⟨⟨s⟩⟩))],H:=prH gm (mkM l.length l) g4 gb p' v' [.cells g12 43 (In.sv x)]++[BR r'] }:=by
       intro s hs
       refine zj3l (prH gm (mkM l.length l) g4 gb p' v' [.cells g12 43 (In.sv x)]) (BR r') (vs:=[.pointer (some ⟨gb,0,none⟩),.string ⟨⟨s⟩⟩]) ?_ rfl rfl (R:=fun u W'=>∃ p2 v2 r2,BOk 48 5 gb p2 v2 r2 (Lib.byteCells ((prL l i++labL l i)++s))∧HeapOk ⟨w,w.heap.size,[],76,[]⟩ (prH gm (mkM l.length l) g4 gb p2 v2 [.cells g12 43 (In.sv x)]++[BR r2]) W') (fun W hW=>?_) fun u W' ⟨p2,v2,r2,hb2,hW2⟩=>⟨.unk,prH gm (mkM l.length l) g4 gb p2 v2 [.cells g12 43 (In.sv x)]++[BR r2],by simp[Is],zj4b (H1:=prH gm (mkM l.length l) g4 gb p' v' [.cells g12 43 (In.sv x)]) (i:=2) rfl,hW2,?_⟩
       ·show leF 4 _ _
        (simp only[go_sem,lk,Nat.reduceBEq,reduceLT,reduceAdd] <;> try simp)
       ·have hB:=bld_is (E:=⟨w,w.heap.size,[],76,[]⟩) (H1:=prH gm (mkM l.length l) g4 gb p' v' [.cells g12 43 (In.sv x)]) (i:=2) rfl rfl hb' hW
        refine (writeC _ gb _ ⟨⟨s⟩⟩ W hB (by rw[Lib.byteCells_length,zj02,List.length_append,hs]; omega) hW.floor).mono fun u W' ⟨hu,h1,h2,h3⟩=>?_
        rw[strC] at h1
        exact bld_heap (E:=⟨w,w.heap.size,[],76,[]⟩) (H1:=prH gm (mkM l.length l) g4 gb p' v' [.cells g12 43 (In.sv x)]) (i:=2) rfl rfl rfl rfl hW h1 h2 h3
       ·clear hW2 hb'
        unfold prH
        (refine Y_go 600 ?_; dsimp only[go_sem,In.sv,Nat.reduceBEq])
        refine⟨((i+1:Nat):Int),ArOk.to (by omega) (by omega) (by omega),zj01 fun a W rep=>again2 ⟨i+1,p2,v2,r2⟩ ⟨by show i+1≤_; omega,?_⟩ (by show _ - (i+1) < _ - i; omega) a W ((rep.pick [0,1,2,4] (by decide)).le (by unfold prH; (simp only[go_sem,renF,renV,renVL,renO,pickH,pickE,posOf,lk,Nat.reduceBEq,reduceLT,reduceAdd] <;> try simp)) (by unfold prH; (simp only[go_sem,renF,renV,renVL,renO,pickH,pickE,posOf,lk,Nat.reduceBEq,reduceLT,reduceAdd] <;> try simp); rcases r2 with _ | ⟨_,_⟩ <;> exact⟨rfl,rfl⟩))⟩
        show BOk 48 5 gb p2 v2 r2 (Lib.byteCells (prL l (i+1)))
        rw[prL_succ hz,← hs]; exact hb2
      unfold prH at wr ⊢
      (refine Y_go 600 ?_; dsimp only[go_sem,In.sv,Nat.reduceBEq,reduceAdd])
      refine zj00 (vs:=[In.val x]) rfl (fun W hW=>text16 x W h64 (hG.keep hW.fresh') (hT.keep hW.fresh')) fun u hu=>⟨.val (.string ⟨⟨textL x⟩⟩),by rw[hu]; simp[Is],?_⟩
      (refine Y_go 600 ?_; dsimp only[go_sem,Nat.reduceBEq,reduceAdd])
      have htl:=zj58 h64
      cases ht:tgtB x l.length with
      | false =>
       refine zj00 (vs:=[In.val x,.int .i64 (l.length:Int)]) rfl (fun W hW=>zj3s x l.length W h64 (by omega) (hG.keep hW.fresh') (hT.keep hW.fresh')) fun u hu=>⟨.tup [.val (.int .i64 x.imm),.bf],by rw[hu,ht]; simp[Is,IsL],?_⟩
       (refine Y_go 600 ?_; dsimp only[go_sem,Nat.reduceBEq])
       refine⟨by first | (rw[zj02,zj02]; simp; omega) | (simp[ByteArray.size]; omega),?_⟩
       simp only[zj0d]
       exact G.fr _ (wr (textL x++[10]) (by unfold linL; rw[if_neg (by simp[ht])])) (by (simp only[go_sem,lk,Nat.reduceBEq,reduceLT,reduceAdd] <;> try simp))
      | true =>
       refine zj00 (vs:=[In.val x,.int .i64 (l.length:Int)]) rfl (fun W hW=>zj3s x l.length W h64 (by omega) (hG.keep hW.fresh') (hT.keep hW.fresh')) fun u hu=>⟨.tup [.val (.int .i64 x.imm),.bt],by rw[hu,ht]; simp[Is,IsL],?_⟩
       (refine Y_go 600 ?_; dsimp only[go_sem,Nat.reduceBEq])
       have hit:=Lib.itoa_length_le x.imm h64.2.2.2.2.1 h64.2.2.2.2.2
       have hup:=upTo_len (textL x)
       have fin:∀ s:B,s=upTo (textL x)→∀ F,leF 1000 F [(0,.val (.slice A l.length c)),(9,.ptr 2 0),(10,.fn (.func 14) [] [.ptr 1 0,.ptr 2 0]),(38,.val (.slice A l.length c)),(39,.val (.int .i64 (l.length:Int))),(40,.val (.int .i64 (i:Int))),(63,.val (.string ⟨⟨s++[108]⟩⟩)),(64,.val (.int .i64 x.imm))] →
         G (cxOf Tryd.prog Tryd.f7 K7 T7 R) ⟨w,w.heap.size,[],76,[]⟩ [.ops [.mk (some 65) none (.call 16 [.tmp 64]),.mk (some 66) none (.k (.cat (.tmp 63) (.tmp 65))),.mk (some 13) none (.k (.mov (.tmp 66)))],.code (.ref 9),.blk 3,.code (.ops [.mk (some 70) none (.k (.arith .add .i64 (.tmp 40) (.const (.int .i64 1)))),.mk (some 40) none (.k (.mov (.tmp 70)))]),.lend I2,.blk 2,.code (.ref 17)]
          { F:=F,H:=[.map gm (mkM l.length l),.cells g4 41 [.mp 0],.obj gb (.cells #[p',v'] 48 (0,0)),.cells g12 43 (In.sv x),BR r'] }:=by
        intro s hs F hF
        refine G.fr _ ?_ hF
        refine zj00 (vs:=[.int .i64 x.imm]) rfl (fun W hW=>itoa41 x.imm W h64.2.2.2.2.1 h64.2.2.2.2.2 (hT.keep hW.fresh')) fun u hu=>⟨.val (.string ⟨⟨Lib.itoa x.imm⟩⟩),by rw[hu]; simp[Is],?_⟩
        (refine Y_go 600 ?_; dsimp only[go_sem,In.sv,Nat.reduceBEq])
        refine⟨by first | (rw[zj02,zj02,hs]; simp; omega) | (simp[ByteArray.size,hs]; omega),by first | (rw[zj0d,zj02,zj02,hs]; simp; omega) | (simp[ByteArray.size,hs]; omega),?_⟩
        simp only[zj0d]
        refine G.fr _ (wr ((s++[108]++Lib.itoa x.imm)++[10]) (by unfold linL; rw[if_pos ht,hs]; simp)) (by (simp only[go_sem,lk,Nat.reduceBEq,reduceLT,reduceAdd] <;> try simp))
       cases hk:lastBl (textL x) with
       | none =>
        refine zj00 (vs:=[.string ⟨⟨textL x⟩⟩,.int .u8 32]) rfl (fun W hW=>lastC (textL x) 32 W (by omega)) fun u hu=>⟨.val (.int .i64 (-1)),by rw[hu,zj53,hk]; simp[Is],?_⟩
        (refine Y_go 600 ?_; dsimp only[go_sem,Nat.reduceBEq,Int.reduceToNat])
        refine⟨0,ArOk.to (by omega) (by omega) (by omega),⟨by omega,by omega,by omega⟩,?_⟩
        rw[show (0:Int).toNat=0 from rfl,zj55]
        refine⟨by first | (rw[zj02,zj02]; simp) | (simp[ByteArray.size]),?_⟩
        simp only[zj0d]
        refine fin ((textL x).take 0) (by unfold upTo; rw[hk]; rfl) _ (by (simp only[go_sem,lk,Nat.reduceBEq,reduceLT,reduceAdd] <;> try simp))
       | some k =>
        obtain⟨hkl,_⟩:=zj1d hk
        refine zj00 (vs:=[.string ⟨⟨textL x⟩⟩,.int .u8 32]) rfl (fun W hW=>lastC (textL x) 32 W (by omega)) fun u hu=>⟨.val (.int .i64 (k:Int)),by rw[hu,zj53,hk]; simp[Is],?_⟩
        (refine Y_go 600 ?_; dsimp only[go_sem,Nat.reduceBEq,Int.reduceToNat])
        refine⟨((k+1:Nat):Int),ArOk.to (by omega) (by omega) (by omega),⟨by omega,by omega,by first | (rw[zj02]; omega) | (simp[ByteArray.size]; omega)⟩,?_⟩
        rw[show ((k+1:Nat):Int).toNat=k+1 by omega,zj55]
        refine⟨by first | (rw[zj02,zj02,List.length_take]; simp; omega) | (simp[ByteArray.size]; omega),?_⟩
        simp only[zj0d]
        refine fin ((textL x).take (k+1)) (by unfold upTo; rw[hk]) _ (by (simp only[go_sem,lk,Nat.reduceBEq,reduceLT,reduceAdd] <;> try simp))
     exact fun a W rep=>lab a W ((rep.pick [0,1,2,4,3] (by decide)).le (by unfold prH; (simp only[go_sem,renF,renV,renVL,renO,pickH,pickE,posOf,lk,Nat.reduceBEq,reduceLT,reduceAdd] <;> try simp)) (by unfold prH; (simp only[go_sem,renF,renV,renVL,renO,pickH,pickE,posOf,lk,Nat.reduceBEq,reduceLT,reduceAdd] <;> try simp); exact⟨⟨rfl,rfl⟩,by rcases r with _ | ⟨_,_⟩ <;> exact⟨rfl,rfl⟩⟩))
    ·have hie:i=l.length:=by have:=of_decide_eq_false hge; omega
     subst hie
     refine G.fr [(9,.ptr 2 0),(71,.fn (.func 14) [] [.ptr 1 0,.ptr 2 0]),(73,.val (.int .i64 (l.length:Int)))] ?_ (by (simp only[go_sem,lk,Nat.reduceBEq,reduceLT,reduceAdd] <;> try simp))
     show G _ _ _ { F:=_,H:=prH gm (mkM l.length l) g4 gb p v []++[BR r] }
     refine zj4a (prH gm (mkM l.length l) g4 gb p v []) (BR r) (x:=.tmp 71) (f:=14) (fst:=[]) (caps:=[.pointer (some ⟨g4,0,none⟩),.pointer (some ⟨gb,0,none⟩)]) (vs:=[.int .i64 (l.length:Int)]) ?_ rfl rfl ok14 rfl (fun W hW=>label14 w 76 [] gm (mkM l.length l) g4 gb p v [] r (prL l l.length) l.length (mkB l l l.length) W (by omega) (by omega) hmk (hmg l.length) hb rfl rfl hT hW) fun u W' ⟨hu,p',v',r',hb',hW'⟩=>⟨.unk,prH gm (mkM l.length l) g4 gb p' v' []++[BR r'],by simp[Is],zj4b (H1:=prH gm (mkM l.length l) g4 gb p v []) (i:=2) rfl,hW',?_⟩
     ·show leF 3 _ _
      (simp only[go_sem,lk,Nat.reduceBEq,reduceLT,reduceAdd] <;> try simp)
     have hb':BOk 48 5 gb p' v' r' (Lib.byteCells (printL l)):=hb'
     clear hW' hu hb
     unfold prH
     (refine Y_go 600 ?_; dsimp only[go_sem,Nat.reduceBEq])
     refine G.fr [(9,.ptr 2 0)] ?_ (by (simp only[go_sem,lk,Nat.reduceBEq,reduceLT,reduceAdd] <;> try simp))
     show G _ _ _ { F:=_,H:=prH gm (mkM l.length l) g4 gb p' v' []++[BR r'] }
     refine zj3l (prH gm (mkM l.length l) g4 gb p' v' []) (BR r') (vs:=[.pointer (some ⟨gb,0,none⟩)]) ?_ rfl rfl (R:=fun u W'=>u=.string ⟨⟨printL l⟩⟩∧HeapOk ⟨w,w.heap.size,[],76,[]⟩ [.gone gm,.gone g4,.gone gb] W') (fun W hW=>?_) fun u W' ⟨hu,hW2⟩=>⟨.val (.string ⟨⟨printL l⟩⟩),[.gone gm,.gone g4,.gone gb],by simp only[Is]; exact hu,?_,hW2,?_⟩
     ·show leF 3 _ _
      (simp only[go_sem,lk,Nat.reduceBEq,reduceLT,reduceAdd] <;> try simp)
     ·have hB:=bld_is (E:=⟨w,w.heap.size,[],76,[]⟩) (H1:=prH gm (mkM l.length l) g4 gb p' v' []) (i:=2) rfl rfl hb' hW
      refine (stringC _ gb (printL l) W hB hW.floor).mono fun u W' ⟨hu,h2⟩=>⟨hu,?_⟩
      have g3:∀ j en,nth ([.gone gm,.gone g4,.gone gb]:List SO) j=some en→∃ g,en=.gone g:=fun j en hj=>by
       match j,hj with
       | 0,h=>injection h with h; exact⟨_,h.symm⟩
       | 1,h=>injection h with h; exact⟨_,h.symm⟩
       | 2,h=>injection h with h; exact⟨_,h.symm⟩
      refine⟨hW.keep.trans ⟨h2.os,h2.tape,h2.output,h2.size,fun j hj=>h2.block j hj.1⟩,Nat.le_trans hW.floor h2.size,fun j en hj=>?_,fun j en g hj hf=>?_,fun j j' en en' g _ hj _ hf=>?_⟩
      ·obtain⟨g,rfl⟩:=g3 j en hj; exact trivial
      ·obtain⟨g',rfl⟩:=g3 j en hj; cases hf
      ·obtain⟨g',rfl⟩:=g3 j en hj; cases hf
     ·refine⟨fun j g h=>?_,fun j t ver sz A n c xs h=>?_⟩
      ·match j,h with
       | 0,h=>exact h
       | 1,h=>exact h
       | 2,h=>exact h
      ·match j,h with
       | 0,h=>cases h
       | 1,h=>cases h
       | 2,h=>cases h
     ·(refine Y_go 600 ?_; dsimp only[go_sem,Nat.reduceBEq])
      exact zj04 (vs:=[.string ⟨⟨printL l⟩⟩,.int .i64 0]) r7 rfl rfl fun W hW=>hR _ _ ⟨by rw[if_neg (by omega)]; rfl,hW.fresh'⟩
end Go.Proofs.YtaiajnehnjnadaaDoor
