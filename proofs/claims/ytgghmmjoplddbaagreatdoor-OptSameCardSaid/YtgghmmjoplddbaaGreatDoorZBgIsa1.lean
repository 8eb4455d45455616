/- isa: the small functions beneath Do and Legal. -/
import Derived.Test.YtgghmmjoplddbaaGreatDoorIsaSpec
import Derived.Test.YtgghmmjoplddbaaGreatDoorZBgCodeIsa
set_option linter.unusedSimpArgs false
set_option linter.unusedVariables false
set_option linter.unnecessarySimpa false
namespace Go.Proofs.YtgghmmjoplddbaaGreatDoor
open Go Go.Sx Go.Isa
set_option maxRecDepth 100000
def shL:List Value:=[.string ⟨⟨[]⟩⟩,.string ⟨⟨[]⟩⟩,.string ⟨⟨[104,97,108,116]⟩⟩,.string ⟨⟨[]⟩⟩,.string ⟨⟨[115,101,116]⟩⟩,.string ⟨⟨[65,73]⟩⟩,.string ⟨⟨[109,111,118]⟩⟩,.string ⟨⟨[65,66]⟩⟩,.string ⟨⟨[97,100,100]⟩⟩,.string ⟨⟨[65,66,67]⟩⟩,.string ⟨⟨[115,117,98]⟩⟩,.string ⟨⟨[65,66,67]⟩⟩,.string ⟨⟨[109,117,108]⟩⟩,.string ⟨⟨[65,66,67]⟩⟩,.string ⟨⟨[97,110,100]⟩⟩,.string ⟨⟨[65,66,67]⟩⟩,.string ⟨⟨[120,111,114]⟩⟩,.string ⟨⟨[65,66,67]⟩⟩,.string ⟨⟨[115,104,108]⟩⟩,.string ⟨⟨[65,66,67]⟩⟩,.string ⟨⟨[115,104,114]⟩⟩,.string ⟨⟨[65,66,67]⟩⟩,.string ⟨⟨[108,111,97,100]⟩⟩,.string ⟨⟨[65,66,73]⟩⟩,.string ⟨⟨[115,116,111,114,101]⟩⟩,.string ⟨⟨[65,66,73]⟩⟩,.string ⟨⟨[106,117,109,112]⟩⟩,.string ⟨⟨[73]⟩⟩,.string ⟨⟨[101,113]⟩⟩,.string ⟨⟨[65,66,73]⟩⟩,.string ⟨⟨[110,101]⟩⟩,.string ⟨⟨[65,66,73]⟩⟩,.string ⟨⟨[108,116]⟩⟩,.string ⟨⟨[65,66,73]⟩⟩,.string ⟨⟨[98,101,103,105,110]⟩⟩,.string ⟨⟨[]⟩⟩,.string ⟨⟨[101,110,100]⟩⟩,.string ⟨⟨[]⟩⟩]
def ShAt (w:World):Prop:=RowAt w (some ⟨0,0,none⟩) shL
theorem sh_get {op:Int} (h:isOp op=true):shL[0+op.toNat*2+1]? = some (.string ⟨⟨nmL op⟩⟩):=by
 rcases zj0g h with h | h | h | h | h | h | h | h | h | h | h | h | h | h | h | h | h | h <;> subst h <;> rfl
theorem idx71 (s:ByteArray) (c:Int) (w:World):CallsV Tryz.prog 53 [.string s,.int .u8 c] w fun v w'=>v=.int .i64 (Lib.indexByte s.data.toList c.toNat.toUInt8)∧Fresh w w':=by
 refine zj03 (keep:=K53) (nt:=8) (svs:=[.val (.string s),.val (.int .u8 c)]) Tryz.func53 x53 n53 (by simp) (by simp[IsL,Is]) fun R hR=>?_
 (refine Y_go 600 ?_; dsimp only[go_sem,Nat.reduceAdd,Nat.reduceBEq])
 exact zj01 (vs:=[_]) r53 rfl rfl fun W hW=>hR _ _ ⟨rfl,hW.fresh'⟩
theorem idx38 (s:ByteArray) (c:Int) (w:World):CallsV Tryz.prog 31 [.string s,.int .u8 c] w fun v w'=>v=.int .i64 (Lib.indexByte s.data.toList c.toNat.toUInt8)∧Fresh w w':=by
 refine zj03 (keep:=K31) (nt:=8) (svs:=[.val (.string s),.val (.int .u8 c)]) Tryz.func31 x31 n31 (by simp) (by simp[IsL,Is]) fun R hR=>?_
 (refine Y_go 600 ?_; dsimp only[go_sem,Nat.reduceAdd,Nat.reduceBEq])
 refine zj00 (vs:=[.string s,.int .u8 c]) rfl (fun W _=>idx71 s c W) fun v hv=>⟨.val _,by simpa [Is] using hv,?_⟩
 (refine Y_go 600 ?_; dsimp only[go_sem,Nat.reduceBEq])
 exact zj01 (vs:=[_]) r31 rfl rfl fun W hW=>hR _ _ ⟨rfl,hW.fresh'⟩
theorem names37 (op:Int) (w:World) (hG:ShAt w):CallsV Tryz.prog 30 [.int .i64 op] w fun v w'=>v=.tuple #[.string ⟨⟨nmL op⟩⟩,.bool (isOp op)]∧Fresh w w':=by
 refine zj03 (keep:=K30) (nt:=14) (svs:=[.val (.int .i64 op)]) Tryz.func30 x30 n30 (by simp) (by simp[IsL,Is]) fun R hR=>?_
 (refine Y_go 600 ?_; dsimp only[go_sem,Nat.reduceAdd,Nat.reduceBEq])
 have out:isOp op=false→R (tupOf [.string ⟨⟨[]⟩⟩,.bool false])=R (.tuple #[.string ⟨⟨nmL op⟩⟩,.bool (isOp op)]):=fun h=>by rw[nmL_out h,h]; rfl
 refine⟨fun h=>?_,fun h=>⟨fun h2=>?_,fun h2=>?_⟩⟩
 ·have h:=of_decide_eq_true h
  refine zj01 (vs:=[.string ⟨⟨[]⟩⟩,.bool false]) r30 rfl rfl fun W hW=>?_
  rw[out (by simp[isOp]; omega)]; exact hR _ _ ⟨rfl,hW.fresh'⟩
 ·have h2:=of_decide_eq_true h2
  refine zj01 (vs:=[.string ⟨⟨[]⟩⟩,.bool false]) r30 rfl rfl fun W hW=>?_
  rw[out (by simp[isOp]; omega)]; exact hR _ _ ⟨rfl,hW.fresh'⟩
 ·have h:=of_decide_eq_false h
  have h2:=of_decide_eq_false h2
  have ho:isOp op=true:=by simp[isOp]; omega
  refine⟨⟨by omega,by omega,rfl⟩,rfl,_,hG.cell (sh_get ho),?_⟩
  exact zj01 (vs:=[_,_]) r30 rfl rfl fun W hW=>hR _ _ ⟨by rw[ho]; rfl,hW.fresh'⟩
open Nat (reduceAdd reduceLT)
def In.sv (x:In):List SV:=[.val (.int .i64 x.op),.val (.int .i64 x.a),.val (.int .i64 x.b),.val (.int .i64 x.c),.val (.int .i64 x.imm)]
def In.val (x:In):Value:=.agg x.cells.toArray
theorem In.is (H:List SO) (x:In):Is H (.agg (In.sv x)) (In.val x):=by
 simp only[Is]; exact⟨x.cells,by simp[In.sv,In.cells,IsL,Is],rfl⟩
theorem hasB {op:Int} {c:Int} (h:decide (Lib.indexByte (nmL op) c.toNat.toUInt8≥0)=true):hasL op c=true:=h
theorem hasN {op:Int} {c:Int} (h:decide (Lib.indexByte (nmL op) c.toNat.toUInt8≥0)=false):hasL op c=false:=h
structure LI where
 k:Nat
 p:Unit
theorem zj19 (x:In) (w:World) (hG:ShAt w):CallsV Tryz.prog 11 [In.val x] w fun v w'=>v=.bool (legalB x)∧Fresh w w':=by
 refine zj03 (keep:=K11) (nt:=39) (svs:=[.agg (In.sv x)]) Tryz.func11 x11 n11 (by simp) (by simp only[IsL]; exact⟨_,_,In.is _ x,rfl,rfl⟩) fun R hR=>?_
 (refine Y_go 600 ?_; dsimp only[go_sem,In.sv,reduceAdd,Nat.reduceBEq])
 intro g
 refine zj00 (vs:=[.int .i64 x.op]) rfl (fun W hW=>names37 x.op W (hG.keep hW.fresh')) fun v hv=>⟨.tup [.val (.string ⟨⟨nmL x.op⟩⟩),.val (.bool (isOp x.op))],by rw[hv]; simp[Is,IsL],?_⟩
 (refine Y_go 600 ?_; dsimp only[go_sem,Nat.reduceBEq,reduceAdd])
 refine zj08 (α:=LI) (fun q=>q.k≤3∧(1≤q.k→(!hasL x.op 65 || isReg x.a)=true)∧(2≤q.k→(!hasL x.op 66 || isReg x.b)=true)∧(3≤q.k→(!hasL x.op 67 || isReg x.c)=true)) (fun _=>⟨w,w.heap.size,[],39,[]⟩)
  (fun q=>{ F:=[(0,.agg [.val (.int .i64 x.op),.val (.int .i64 x.a),.val (.int .i64 x.b),.val (.int .i64 x.c),.val (.int .i64 x.imm)]),(1,.ptr 0 0),(2,.bf),(3,.val (.string ⟨⟨nmL x.op⟩⟩)),(4,.val (.bool (isOp x.op))),(19,.agg [.val (.int .i64 x.a),.val (.int .i64 x.b),.val (.int .i64 x.c)]),(20,.val (.int .i64 q.k))],H:=[.cells g 47 [.val (.int .i64 x.op),.val (.int .i64 x.a),.val (.int .i64 x.b),.val (.int .i64 x.c),.val (.int .i64 x.imm)]] }) (fun q=>3 - q.k) (fun _=>rfl) ?start ?round
 case start =>
  intro a W rep
  refine⟨⟨0,()⟩,⟨Nat.zero_le _,fun h=>absurd h (by show ¬ 1≤0; omega),fun h=>absurd h (by show ¬ 2≤0; omega),fun h=>absurd h (by show ¬ 3≤0; omega)⟩,rep.le ?_ ?_⟩ <;> (simp only[go_sem,lk,Nat.reduceBEq,reduceLT,reduceAdd] <;> try simp)
 case round =>
  rintro ⟨k,_⟩ ⟨hk,h1,h2,h3⟩ I hI
  have hk:k≤3:=hk
  have h1:1≤k→(!hasL x.op 65 || isReg x.a)=true:=h1
  have h2:2≤k→(!hasL x.op 66 || isReg x.b)=true:=h2
  have h3:3≤k→(!hasL x.op 67 || isReg x.c)=true:=h3
  (refine Y_go 600 ?_; dsimp only[go_sem,Nat.reduceBEq])
  refine⟨fun hlt=>?_,fun hge=>?_⟩
  rotate_left
  ·have hge:=of_decide_eq_false hge
   have hk3:k=3:=by omega
   refine zj01 (vs:=[.bool (isOp x.op)]) r11 rfl rfl fun W hW=>hR _ _ ⟨?_,hW.fresh'⟩
   have e1:=h1 (by omega); have e2:=h2 (by omega); have e3:=h3 (by omega)
   simp[tupOf,legalB,e1,e2,e3]
  ·have hlt:=of_decide_eq_true hlt
   have hk':k=0∨k=1∨k=2:=by omega
   have bad:∀ (ok:Bool),legalB x=false→R (tupOf [.bool false])=R (.bool (legalB x)):=fun _ h=>by rw[h]; rfl
   rcases hk' with rfl | rfl | rfl
   ·refine⟨⟨by omega,by omega⟩,x.a,rfl,by omega,65,rfl,?_⟩
    refine zj00 (vs:=[.string ⟨⟨nmL x.op⟩⟩,.int .u8 65]) rfl (fun W hW=>idx38 _ _ W) fun v hv=>⟨.val (.int .i64 (Lib.indexByte (nmL x.op) (Int.toNat 65).toUInt8)),by rw[hv]; simp[Is],?_⟩
    (refine Y_go 600 ?_; dsimp only[go_sem,Int.reduceToNat,Nat.reduceBEq])
    have go:(!hasL x.op 65 || isReg x.a)=true→∀ (F:List (Nat × SV)),leF 1 F [(0,.agg [.val (.int .i64 x.op),.val (.int .i64 x.a),.val (.int .i64 x.b),.val (.int .i64 x.c),.val (.int .i64 x.imm)]),(1,.ptr 0 0),(2,.bf),(3,.val (.string ⟨⟨nmL x.op⟩⟩)),(4,.val (.bool (isOp x.op))),(19,.agg [.val (.int .i64 x.a),.val (.int .i64 x.b),.val (.int .i64 x.c)]),(20,.val (.int .i64 ((0:Nat)+1:Int)))]→G (cxOf Tryz.prog Tryz.f11 K11 T11 R) ⟨w,w.heap.size,[],39,[]⟩ [.lend I] { F:=F,H:=[.cells g 47 [.val (.int .i64 x.op),.val (.int .i64 x.a),.val (.int .i64 x.b),.val (.int .i64 x.c),.val (.int .i64 x.imm)]] }:=by
     intro hok F hF
     refine zj02 fun a W rep=>hI ⟨0+1,()⟩ ⟨(by show 0+1≤3; omega),?_,?_,?_⟩ (by show 3 - (0+1) < 3 - 0; omega) a W (rep.le ?_ ?_)
     ·intro _; exact hok
     ·intro hh; have hh:2≤0+1:=hh; omega
     ·intro hh; have hh:3≤0+1:=hh; omega
     ·exact hF
     ·(simp only[go_sem,lk,Nat.reduceBEq,reduceLT,reduceAdd] <;> try simp)
    refine⟨fun e1=>⟨fun e2=>?_,fun e2=>⟨fun e3=>?_,fun e3=>?_⟩⟩,fun e1=>?_⟩
    ·have e2:=of_decide_eq_true e2
     refine zj01 (vs:=[.bool false]) r11 rfl rfl fun W hW=>?_
     rw[bad true (by simp[legalB,hasB (op:=x.op) (c:=65) e1,isReg]; omega)]; exact hR _ _ ⟨rfl,hW.fresh'⟩
    ·have e3:=of_decide_eq_true e3
     refine zj01 (vs:=[.bool false]) r11 rfl rfl fun W hW=>?_
     rw[bad true (by simp[legalB,hasB (op:=x.op) (c:=65) e1,isReg]; omega)]; exact hR _ _ ⟨rfl,hW.fresh'⟩
    ·have e2:=of_decide_eq_false e2
     have e3:=of_decide_eq_false e3
     refine⟨_,.to rfl (by omega) (by omega),go (by simp[isReg]; omega) _ ?_⟩
     (simp only[go_sem,lk,Nat.reduceBEq,reduceLT,reduceAdd] <;> try simp)
    ·refine⟨_,.to rfl (by omega) (by omega),go (by simp[hasN (op:=x.op) (c:=65) e1]) _ ?_⟩
     (simp only[go_sem,lk,Nat.reduceBEq,reduceLT,reduceAdd] <;> try simp)
   ·refine⟨⟨by omega,by omega⟩,x.b,rfl,by omega,66,rfl,?_⟩
    refine zj00 (vs:=[.string ⟨⟨nmL x.op⟩⟩,.int .u8 66]) rfl (fun W hW=>idx38 _ _ W) fun v hv=>⟨.val (.int .i64 (Lib.indexByte (nmL x.op) (Int.toNat 66).toUInt8)),by rw[hv]; simp[Is],?_⟩
    (refine Y_go 600 ?_; dsimp only[go_sem,Int.reduceToNat,Nat.reduceBEq])
    have go:(!hasL x.op 66 || isReg x.b)=true→∀ (F:List (Nat × SV)),leF 1 F [(0,.agg [.val (.int .i64 x.op),.val (.int .i64 x.a),.val (.int .i64 x.b),.val (.int .i64 x.c),.val (.int .i64 x.imm)]),(1,.ptr 0 0),(2,.bf),(3,.val (.string ⟨⟨nmL x.op⟩⟩)),(4,.val (.bool (isOp x.op))),(19,.agg [.val (.int .i64 x.a),.val (.int .i64 x.b),.val (.int .i64 x.c)]),(20,.val (.int .i64 ((1:Nat)+1:Int)))]→G (cxOf Tryz.prog Tryz.f11 K11 T11 R) ⟨w,w.heap.size,[],39,[]⟩ [.lend I] { F:=F,H:=[.cells g 47 [.val (.int .i64 x.op),.val (.int .i64 x.a),.val (.int .i64 x.b),.val (.int .i64 x.c),.val (.int .i64 x.imm)]] }:=by
     intro hok F hF
     refine zj02 fun a W rep=>hI ⟨1+1,()⟩ ⟨(by show 1+1≤3; omega),?_,?_,?_⟩ (by show 3 - (1+1) < 3 - 1; omega) a W (rep.le ?_ ?_)
     ·intro _; exact h1 (by omega)
     ·intro hh; exact hok
     ·intro hh; have hh:3≤1+1:=hh; omega
     ·exact hF
     ·(simp only[go_sem,lk,Nat.reduceBEq,reduceLT,reduceAdd] <;> try simp)
    refine⟨fun e1=>⟨fun e2=>?_,fun e2=>⟨fun e3=>?_,fun e3=>?_⟩⟩,fun e1=>?_⟩
    ·have e2:=of_decide_eq_true e2
     refine zj01 (vs:=[.bool false]) r11 rfl rfl fun W hW=>?_
     rw[bad true (by simp[legalB,hasB (op:=x.op) (c:=66) e1,isReg]; omega)]; exact hR _ _ ⟨rfl,hW.fresh'⟩
    ·have e3:=of_decide_eq_true e3
     refine zj01 (vs:=[.bool false]) r11 rfl rfl fun W hW=>?_
     rw[bad true (by simp[legalB,hasB (op:=x.op) (c:=66) e1,isReg]; omega)]; exact hR _ _ ⟨rfl,hW.fresh'⟩
    ·have e2:=of_decide_eq_false e2
     have e3:=of_decide_eq_false e3
     refine⟨_,.to rfl (by omega) (by omega),go (by simp[isReg]; omega) _ ?_⟩
     (simp only[go_sem,lk,Nat.reduceBEq,reduceLT,reduceAdd] <;> try simp)
    ·refine⟨_,.to rfl (by omega) (by omega),go (by simp[hasN (op:=x.op) (c:=66) e1]) _ ?_⟩
     (simp only[go_sem,lk,Nat.reduceBEq,reduceLT,reduceAdd] <;> try simp)
   ·refine⟨⟨by omega,by omega⟩,x.c,rfl,by omega,67,rfl,?_⟩
    refine zj00 (vs:=[.string ⟨⟨nmL x.op⟩⟩,.int .u8 67]) rfl (fun W hW=>idx38 _ _ W) fun v hv=>⟨.val (.int .i64 (Lib.indexByte (nmL x.op) (Int.toNat 67).toUInt8)),by rw[hv]; simp[Is],?_⟩
    (refine Y_go 600 ?_; dsimp only[go_sem,Int.reduceToNat,Nat.reduceBEq])
    have go:(!hasL x.op 67 || isReg x.c)=true→∀ (F:List (Nat × SV)),leF 1 F [(0,.agg [.val (.int .i64 x.op),.val (.int .i64 x.a),.val (.int .i64 x.b),.val (.int .i64 x.c),.val (.int .i64 x.imm)]),(1,.ptr 0 0),(2,.bf),(3,.val (.string ⟨⟨nmL x.op⟩⟩)),(4,.val (.bool (isOp x.op))),(19,.agg [.val (.int .i64 x.a),.val (.int .i64 x.b),.val (.int .i64 x.c)]),(20,.val (.int .i64 ((2:Nat)+1:Int)))]→G (cxOf Tryz.prog Tryz.f11 K11 T11 R) ⟨w,w.heap.size,[],39,[]⟩ [.lend I] { F:=F,H:=[.cells g 47 [.val (.int .i64 x.op),.val (.int .i64 x.a),.val (.int .i64 x.b),.val (.int .i64 x.c),.val (.int .i64 x.imm)]] }:=by
     intro hok F hF
     refine zj02 fun a W rep=>hI ⟨2+1,()⟩ ⟨(by show 2+1≤3; omega),?_,?_,?_⟩ (by show 3 - (2+1) < 3 - 2; omega) a W (rep.le ?_ ?_)
     ·intro _; exact h1 (by omega)
     ·intro hh; exact h2 (by omega)
     ·intro hh; exact hok
     ·exact hF
     ·(simp only[go_sem,lk,Nat.reduceBEq,reduceLT,reduceAdd] <;> try simp)
    refine⟨fun e1=>⟨fun e2=>?_,fun e2=>⟨fun e3=>?_,fun e3=>?_⟩⟩,fun e1=>?_⟩
    ·have e2:=of_decide_eq_true e2
     refine zj01 (vs:=[.bool false]) r11 rfl rfl fun W hW=>?_
     rw[bad true (by simp[legalB,hasB (op:=x.op) (c:=67) e1,isReg]; omega)]; exact hR _ _ ⟨rfl,hW.fresh'⟩
    ·have e3:=of_decide_eq_true e3
     refine zj01 (vs:=[.bool false]) r11 rfl rfl fun W hW=>?_
     rw[bad true (by simp[legalB,hasB (op:=x.op) (c:=67) e1,isReg]; omega)]; exact hR _ _ ⟨rfl,hW.fresh'⟩
    ·have e2:=of_decide_eq_false e2
     have e3:=of_decide_eq_false e3
     refine⟨_,.to rfl (by omega) (by omega),go (by simp[isReg]; omega) _ ?_⟩
     (simp only[go_sem,lk,Nat.reduceBEq,reduceLT,reduceAdd] <;> try simp)
    ·refine⟨_,.to rfl (by omega) (by omega),go (by simp[hasN (op:=x.op) (c:=67) e1]) _ ?_⟩
     (simp only[go_sem,lk,Nat.reduceBEq,reduceLT,reduceAdd] <;> try simp)
theorem oneI (l:List In):∀ u ∈ cellsI l,u.oneCell'=true:=by
 intro u hu
 simp only[cellsI,In.cells,List.mem_flatMap,List.mem_cons,List.not_mem_nil,or_false] at hu
 obtain⟨x,_,rfl | rfl | rfl | rfl | rfl⟩:=hu <;> rfl
theorem cellI {w:World} {A:Option Addr} {l:List In} {nt i:Nat} (h:RowAt w A (cellsI l)) (hi:i < l.length) {k:Nat} {v:Value} (hk:(l[i]).cells[k]? = some v):CellAt ⟨w,w.heap.size,[],nt,[]⟩ A (i*5+k) v :=
 h.cell (by rw[zj0y l hi (List.getElem?_eq_some_iff.1 hk).1]; exact hk)
theorem someI {w:World} {A:Option Addr} {l:List In} {i:Nat} (h:RowAt w A (cellsI l)) (hi:i < l.length):A.isSome=true:=h.isSome (j:=i*5) (by rw[zj0o]; omega)
theorem goes84 (x:In) (w:World) (hG:ShAt w):CallsV Tryz.prog 61 [In.val x] w fun v w'=>v=.tuple #[.bool (goK x == 1),.bool (goK x == 2)]∧Fresh w w':=by
 refine zj03 (keep:=K61) (nt:=28) (svs:=[.agg (In.sv x)]) Tryz.func61 x61 n61 (by simp) (by simp only[IsL]; exact⟨_,_,In.is _ x,rfl,rfl⟩) fun R hR=>?_
 (refine Y_go 600 ?_; dsimp only[go_sem,In.sv,Nat.reduceAdd,Nat.reduceBEq])
 intro g
 refine zj00 (vs:=[In.val x]) rfl (fun W hW=>zj19 x W (hG.keep hW.fresh')) fun v hv=>⟨.val (.bool (legalB x)),by rw[hv]; simp[Is],?_⟩
 (refine Y_go 600 ?_; dsimp only[go_sem,Nat.reduceBEq,Nat.reduceAdd])
 have done:∀ s b1 b2,denAll s.H s.F [2,3]=some [.bool b1,.bool b2]→b1=(goK x == 1)→b2=(goK x == 2)→RetG (cxOf Tryz.prog Tryz.f61 K61 T61 R) ⟨w,w.heap.size,[],28,[]⟩ s:=fun s b1 b2 hs h1 h2 =>
  zj01 (vs:=[.bool b1,.bool b2]) r61 rfl hs fun W hW=>hR _ _ ⟨by rw[h1,h2]; rfl,hW.fresh'⟩
 have none':¬ (legalB x=true∧0≤x.imm∧x.imm≤1024)→∀ s,denAll s.H s.F [2,3]=some [.bool false,.bool false]→RetG (cxOf Tryz.prog Tryz.f61 K61 T61 R) ⟨w,w.heap.size,[],28,[]⟩ s:=fun h s hs=>done s _ _ hs (by simp[goK,h]) (by simp[goK,h])
 refine⟨fun h=>none' (by simp at h; simp[h]) _ rfl,fun h1=>⟨fun h=>none' (by have:=of_decide_eq_true h; omega) _ rfl,fun h2=>⟨fun h=>none' (by have:=of_decide_eq_true h; omega) _ rfl,fun h3=>⟨fun h4=>done _ _ _ rfl ?_ ?_,fun h4=>done _ _ _ rfl ?_ ?_⟩⟩⟩⟩
 all_goals have h1:legalB x=true:=by simpa using h1
 all_goals have h2:=of_decide_eq_false h2
 all_goals have h3:=of_decide_eq_false h3
 all_goals have hg:goK x=if x.op=13 then 1 else if 14≤x.op∧x.op≤16 then 2 else 0:=by unfold goK; rw[if_pos ⟨h1,by omega,by omega⟩]
 all_goals rw[hg]
 ·have h4:=of_decide_eq_true h4
  rw[if_neg (by omega)]; split <;> simp <;> omega
 ·have h4:=of_decide_eq_true h4
  rw[if_neg (by omega)]; split <;> simp <;> omega
 ·have h4:=of_decide_eq_false h4
  split
  ·simp[*]
  ·rw[if_neg (by omega)]; simp[*]
 ·have h4:=of_decide_eq_false h4
  split
  ·simp
  ·rw[if_neg (by omega)]; simp
theorem clone82 (A:Option Addr) (c:Nat) (l:List In) (w:World) (hA:RowAt w A (cellsI l)) (hl:l.length≤2000000) :
  CallsV Tryz.prog 59 [.slice A l.length c] w fun v w'=>World.ownsB w' w.heap.size 47 5 v l.length (cellsI l)∧Fresh w w':=by
 refine zj03 (keep:=K59) (nt:=8) (svs:=[.val (.slice A l.length c)]) Tryz.func59 x59 n59 (by simp) (by simp[IsL,Is]) fun R hR=>?_
 (refine Y_go 600 ?_; dsimp only[go_sem,Nat.reduceAdd,Nat.reduceBEq,Nat.reduceMul])
 refine⟨fun h=>?_,fun h g=>?_⟩
 ·have hl0:l=[]:=by
   cases l with
   | nil=>rfl
   | cons x l=>have:=hA.isSome (j:=0) (by simp[cellsI,In.cells]); cases A <;> simp_all
  subst hl0
  exact zj01 (vs:=[.slice none 0 0]) r59 rfl rfl fun W hW=>hR _ _ ⟨zj1b _ _ _ _,hW.fresh'⟩
 ·have hrd:=hA.rd (nt:=8) (oneI l)
  rw[zj0o] at hrd
  refine⟨_,hrd,⟨by simp only[maxLen]; omega,by omega⟩,fun A1 c1=>?_⟩
  refine zj01 (vs:=[.slice A1 (0+l.length) c1]) r59 rfl rfl fun W hW=>hR _ _ ⟨?_,hW.fresh'⟩
  have:=hW.owns (i:=1) rfl
  rw[Nat.zero_add] at this
  rw[Nat.zero_add]; exact this
end Go.Proofs.YtgghmmjoplddbaaGreatDoor
