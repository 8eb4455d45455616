/- asm.Print: where an instruction goes by a name. -/
import Derived.Test.YtaiajnehnjnadaaDoorLAsW1
import Derived.Test.YtaiajnehnjnadaaDoorLPrCode
import Derived.Test.YtaiajnehnjnadaaDoorLBldL
set_option linter.unusedSimpArgs false
set_option linter.unusedVariables false
set_option linter.unnecessarySimpa false
namespace Go.Proofs.YtaiajnehnjnadaaDoor
open Go Go.Sx Go.Isa Go.Asm
open Nat (reduceAdd reduceLT)
set_option maxRecDepth 100000
theorem zj3s (x:In) (n:Nat) (w:World) (hx:in64 x) (hn:n≤2000) (hG:ShAt w) (hT:TabAt w):CallsV Tryd.prog 13 [In.val x,.int .i64 (n:Int)] w fun v w'=>v=.tuple #[.int .i64 x.imm,.bool (tgtB x n)]∧Fresh w w':=by
 refine zj08 (keep:=K13) (nt:=32) (svs:=[.agg (In.sv x),.val (.int .i64 (n:Int))]) Tryd.func13 x13 n13 (by simp) (by simp only[IsL]; exact⟨_,_,In.is _ x,⟨_,_,rfl,rfl,rfl⟩,rfl⟩) fun R hR=>?_
 (refine Y_go 600 ?_; dsimp only[go_sem,In.sv,reduceAdd,Nat.reduceBEq])
 intro g
 have done:∀ q:Bool,q=tgtB x n→∀ F H,denAll H F [4,5]=some [.int .i64 x.imm,.bool q]→RetG (cxOf Tryd.prog Tryd.f13 K13 T13 R) ⟨w,w.heap.size,[],32,[]⟩ { F:=F,H:=H }:=fun q hq F H hd =>
  zj04 (vs:=[.int .i64 x.imm,.bool q]) r13 rfl hd fun W hW=>hR _ _ ⟨by rw[hq]; rfl,hW.fresh'⟩
 have ht:tgtB x n=(goOp x.op && (legalB x && (decide (0≤x.imm) && (decide (x.imm≤n) && !Lib.hasPrefix (textL x) rawW)))):=rfl
 cases hg:goOp x.op with
 | false =>
  refine zj00 (vs:=[.int .i64 x.op]) rfl (fun W hW=>goes155 x.op W) fun v hv=>⟨.bf,by rw[hv,hg]; simp[Is],?_⟩
  (refine Y_go 600 ?_; dsimp only[go_sem])
  (refine zj0e (by dsimp only[go_sem,Nat.reduceBEq,reduceAdd]; exact⟨rfl,zj05 rfl⟩) ?_; refine Y_go 600 ?_; dsimp only[go_sem,Nat.reduceBEq])
  (refine zj0e (by dsimp only[go_sem,Nat.reduceBEq,reduceAdd]; exact⟨rfl,zj05 rfl⟩) ?_; refine Y_go 600 ?_; dsimp only[go_sem,Nat.reduceBEq])
  (refine zj0e (by dsimp only[go_sem,Nat.reduceBEq,reduceAdd]; exact⟨rfl,zj05 rfl⟩) ?_; refine Y_go 600 ?_; dsimp only[go_sem,Nat.reduceBEq])
  (refine zj0e (by dsimp only[go_sem,Nat.reduceBEq,reduceAdd]; exact⟨rfl,zj05 rfl⟩) ?_; refine Y_go 600 ?_; dsimp only[go_sem,Nat.reduceBEq])
  exact done false (by rw[ht,hg]; rfl) _ _ rfl
 | true =>
  refine zj00 (vs:=[.int .i64 x.op]) rfl (fun W hW=>goes155 x.op W) fun v hv=>⟨.bt,by rw[hv,hg]; simp[Is],?_⟩
  (refine Y_go 600 ?_; dsimp only[go_sem])
  (refine zj0e (by dsimp only[go_sem,Nat.reduceBEq,reduceAdd]; exact⟨rfl,zj05 rfl⟩) ?_; refine Y_go 600 ?_; dsimp only[go_sem,Nat.reduceBEq,reduceAdd])
  cases hl:legalB x with
  | false =>
   refine zj00 (vs:=[In.val x]) rfl (fun W hW=>legal21 x W (hG.keep hW.fresh')) fun v hv=>⟨.bf,by rw[hv,hl]; simp[Is],?_⟩
   (refine Y_go 600 ?_; dsimp only[go_sem])
   (refine zj0e (by dsimp only[go_sem,Nat.reduceBEq,reduceAdd]; exact⟨rfl,zj05 rfl⟩) ?_; refine Y_go 600 ?_; dsimp only[go_sem,Nat.reduceBEq])
   (refine zj0e (by dsimp only[go_sem,Nat.reduceBEq,reduceAdd]; exact⟨rfl,zj05 rfl⟩) ?_; refine Y_go 600 ?_; dsimp only[go_sem,Nat.reduceBEq])
   (refine zj0e (by dsimp only[go_sem,Nat.reduceBEq,reduceAdd]; exact⟨rfl,zj05 rfl⟩) ?_; refine Y_go 600 ?_; dsimp only[go_sem,Nat.reduceBEq])
   exact done false (by rw[ht,hg,hl]; rfl) _ _ rfl
  | true =>
   refine zj00 (vs:=[In.val x]) rfl (fun W hW=>legal21 x W (hG.keep hW.fresh')) fun v hv=>⟨.bt,by rw[hv,hl]; simp[Is],?_⟩
   (refine Y_go 600 ?_; dsimp only[go_sem])
   (refine zj0e (by dsimp only[go_sem,Nat.reduceBEq,reduceAdd]; exact⟨rfl,zj05 rfl⟩) ?_; refine Y_go 600 ?_; dsimp only[go_sem,Nat.reduceBEq,reduceAdd])
   have hbig:(textL x).length≤1000000:=by have:=zj58 hx; omega
   refine⟨fun h0=>⟨fun h1=>?_,fun h1=>?_⟩,fun h0=>?_⟩
   ·have h0:=of_decide_eq_true h0
    have h1:=of_decide_eq_true h1
    have h0:0≤x.imm:=by omega
    refine zj00 (vs:=[In.val x]) rfl (fun W hW=>text16 x W hx (hG.keep hW.fresh') (hT.keep hW.fresh')) fun v hv=>⟨.val (.string ⟨⟨textL x⟩⟩),by rw[hv]; simp[Is],?_⟩
    (refine Y_go 600 ?_; dsimp only[go_sem])
    (refine zj0e (by dsimp only[go_sem,Nat.reduceBEq,reduceAdd]; exact⟨rfl,zj05 rfl⟩) ?_; refine Y_go 600 ?_; dsimp only[go_sem,Nat.reduceBEq])
    refine zj00 (vs:=[.string ⟨⟨textL x⟩⟩,.string ⟨⟨rawW⟩⟩]) rfl (fun W hW=>preC (textL x) rawW W) fun v hv=>⟨.val (.bool (Lib.hasPrefix (textL x) rawW)),by rw[hv]; simp[Is],?_⟩
    (refine Y_go 600 ?_; dsimp only[go_sem])
    (refine zj0e (by dsimp only[go_sem,Nat.reduceBEq,reduceAdd]; exact⟨rfl,zj05 rfl⟩) ?_; refine Y_go 600 ?_; dsimp only[go_sem,Nat.reduceBEq])
    exact done (!Lib.hasPrefix (textL x) rawW) (by rw[ht,hg,hl,decide_eq_true h0,decide_eq_true h1]; simp) _ _ rfl
   ·have h1:=of_decide_eq_false h1
    (refine zj0e (by dsimp only[go_sem,Nat.reduceBEq,reduceAdd]; exact⟨rfl,zj05 rfl⟩) ?_; refine Y_go 600 ?_; dsimp only[go_sem,Nat.reduceBEq])
    (refine zj0e (by dsimp only[go_sem,Nat.reduceBEq,reduceAdd]; exact⟨rfl,zj05 rfl⟩) ?_; refine Y_go 600 ?_; dsimp only[go_sem,Nat.reduceBEq])
    exact done false (by rw[ht,hg,hl,decide_eq_false (fun h=>h1 h)]; simp) _ _ rfl
   ·have h0:=of_decide_eq_false h0
    (refine zj0e (by dsimp only[go_sem,Nat.reduceBEq,reduceAdd]; exact⟨rfl,zj05 rfl⟩) ?_; refine Y_go 600 ?_; dsimp only[go_sem,Nat.reduceBEq])
    (refine zj0e (by dsimp only[go_sem,Nat.reduceBEq,reduceAdd]; exact⟨rfl,zj05 rfl⟩) ?_; refine Y_go 600 ?_; dsimp only[go_sem,Nat.reduceBEq])
    exact done false (by rw[ht,hg,hl,decide_eq_false (fun h=>h0 (by omega))]; simp) _ _ rfl
theorem strC (acc t:B):Lib.byteCells acc++Lib.strCells ⟨⟨t⟩⟩=Lib.byteCells (acc++t):=by
 rw[Lib.strCells_eq,← Lib.byteCells_append]
def prH (gm:Nat) (mm:List (Value × Value)) (g4 gb:Nat) (p v:Value) (X:List SO):List SO:=.map gm mm :: .cells g4 41 [.mp 0] :: .obj gb (.cells #[p,v] 48 (0,0)) :: X
theorem label14 (w:World) (nt0:Nat) (mk0:List Nat) (gm:Nat) (mm:List (Value × Value)) (g4 gb:Nat) (p v:Value) (X:List SO) (r:Option (Nat × Obj)) (acc:B) (i:Nat) (mk:Bool) (W:World)
  (hi:i≤2000) (hacc:acc.length≤1000000000) (hm:∀ q ∈ mm,keyIs (.int .i64) q.1=true) (hg:mget mm (.int .i64 (i:Int))=if mk then some (.int .i64 1) else none)
  (hb:BOk 48 5 gb p v r (Lib.byteCells acc)) (hXs:X.all (scpO (X.length+3))=true) (hXn:X.all (notT 5)=true) (hT:TabAt w) (hW:HeapOk ⟨w,w.heap.size,[],nt0,mk0⟩ (prH gm mm g4 gb p v X++[BR r]) W) :
  CallsV Tryd.prog 14 [.int .i64 (i:Int),.pointer (some ⟨g4,0,none⟩),.pointer (some ⟨gb,0,none⟩)] W fun u W'=>u=.tuple #[]∧∃ p' v' r',BOk 48 5 gb p' v' r' (Lib.byteCells (acc++if mk then (108 :: Lib.itoa i)++[58,10] else []))∧HeapOk ⟨w,w.heap.size,[],nt0,mk0⟩ (prH gm mm g4 gb p' v' X++[BR r']) W':=by
 unfold prH at hW
 refine calls_lent (keep:=K14) (nt:=13) (svs:=[.val (.int .i64 (i:Int)),.ptr 1 0,.ptr 2 0]) Tryd.func14 x14 n14 (by simp) hW ?_ fun R hR=>?_
 ·simp only[IsL,Is,blk,nth,List.cons_append]
  exact⟨_,_,rfl,⟨_,_,⟨_,rfl,rfl⟩,⟨_,_,⟨_,rfl,rfl⟩,rfl,rfl⟩,rfl⟩,rfl⟩
 (refine Y_go 600 ?_; dsimp only[go_sem,Nat.reduceAdd,Nat.reduceBEq])
 cases mk with
 | false =>
  refine⟨hm,_,hg,.val (.int .i64 0),rfl,?_⟩
  dsimp only[go_sem,Nat.reduceBEq]
  refine⟨fun h=>absurd h (by decide),fun _=>?_⟩
  exact zj38 (vs:=[]) r14 rfl rfl fun W hW=>hR _ _ ⟨rfl,p,v,r,by rw[if_neg (by decide),List.append_nil]; exact hb,HeapOk.env (E:=⟨w,w.heap.size,[],13,[]⟩) (E':=⟨w,w.heap.size,[],nt0,mk0⟩) rfl rfl rfl hW⟩
 | true =>
  refine⟨hm,_,hg,.val (.int .i64 1),rfl,?_⟩
  dsimp only[go_sem,Nat.reduceBEq]
  refine⟨fun _=>?_,fun h=>absurd h (by decide)⟩
  refine zj00 (vs:=[.int .i64 (i:Int)]) rfl (fun W hW=>itoa41 i W (by omega) (by omega) (hT.keep hW.fresh')) fun u hu=>⟨.val (.string ⟨⟨Lib.itoa i⟩⟩),by rw[hu]; simp[Is],?_⟩
  (refine Y_go 600 ?_; dsimp only[go_sem,Nat.reduceBEq])
  have hil:=Lib.itoa_length_le (i:Int) (by omega) (by omega)
  refine⟨by first | (rw[zj02,zj02]; simp; omega) | (simp[ByteArray.size]; omega),by first | (rw[zj0d,zj02,zj02]; simp; omega) | (simp[ByteArray.size]; omega),?_⟩
  simp only[zj0d]
  refine G.fr [(2,.ptr 2 0),(11,.val (.string ⟨⟨(108 :: Lib.itoa i)++[58,10]⟩⟩))] ?_ (by (simp only[go_sem,lk,Nat.reduceBEq,Nat.reduceLT,Nat.reduceAdd] <;> try simp))
  show G _ _ _ { F:=_,H:=prH gm mm g4 gb p v X++[BR r] }
  have s1:(prH gm mm g4 gb p v X).all (scpO (prH gm mm g4 gb p v X).length)=true:=by
   show (true && (scpO (X.length+3) (.cells g4 41 [.mp 0]) && (true && X.all (scpO (X.length+3)))))=true
   simp[scpO,scpL,scp,hXs]
  have s2:(prH gm mm g4 gb p v X).all (notT 5)=true:=by
   show (true && (true && (true && X.all (notT 5))))=true
   rw[hXn]; rfl
  have hlen:(prH gm mm g4 gb p v X).length=X.length+3:=rfl
  refine zj3l (prH gm mm g4 gb p v X) (BR r) (vs:=[.pointer (some ⟨gb,0,none⟩),.string ⟨⟨(108 :: Lib.itoa i)++[58,10]⟩⟩]) ?_ ?_ ?_ (R:=fun u W'=>∃ p' v' r',BOk 48 5 gb p' v' r' (Lib.byteCells (acc++((108 :: Lib.itoa i)++[58,10])))∧HeapOk ⟨w,w.heap.size,[],13,[]⟩ (prH gm mm g4 gb p' v' X++[BR r']) W') (fun W hW=>?_) fun u W' ⟨p',v',r',hb',hW'⟩=>?_
  ·rw[hlen]; (simp only[go_sem,lk,Nat.reduceBEq,Nat.reduceLT,Nat.reduceAdd] <;> try simp)
  ·exact s1
  ·rfl
  ·have hB:=bld_is (E:=⟨w,w.heap.size,[],13,[]⟩) (H1:=prH gm mm g4 gb p v X) (i:=2) rfl rfl hb hW
   refine (writeC _ gb _ ⟨⟨(108 :: Lib.itoa i)++[58,10]⟩⟩ W hB (by rw[Lib.byteCells_length,zj02]; simp; omega) hW.floor).mono fun u W' ⟨hu,h1,h2,h3⟩=>?_
   rw[strC] at h1
   exact bld_heap (E:=⟨w,w.heap.size,[],13,[]⟩) (H1:=prH gm mm g4 gb p v X) (i:=2) rfl rfl s1 s2 hW h1 h2 h3
  ·refine⟨.unk,prH gm mm g4 gb p' v' X++[BR r'],by simp[Is],zj4b (H1:=prH gm mm g4 gb p v X) (i:=2) rfl,hW',?_⟩
   (refine Y_go 600 ?_; dsimp only[go_sem,prH,Nat.reduceBEq])
   refine zj38 (E:=⟨w,w.heap.size,[],13,[]⟩) (vs:=[]) r14 rfl ?_ ?_
   ·rfl
   ·intro W hW
    exact hR _ _ ⟨rfl,p',v',r',by rw[if_pos rfl]; exact hb',HeapOk.env (E:=⟨w,w.heap.size,[],13,[]⟩) (E':=⟨w,w.heap.size,[],nt0,mk0⟩) rfl rfl rfl hW⟩
end Go.Proofs.YtaiajnehnjnadaaDoor
