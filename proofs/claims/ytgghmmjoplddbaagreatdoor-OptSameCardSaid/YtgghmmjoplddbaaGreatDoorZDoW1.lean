/- isa: the closures of Do. -/
import Derived.Test.YtgghmmjoplddbaaGreatDoorZBgIsa1
set_option linter.unusedSimpArgs false
set_option linter.unusedVariables false
set_option linter.unnecessarySimpa false
namespace Go.Proofs.YtgghmmjoplddbaaGreatDoor
open Go Go.Sx Go.Isa
set_option maxRecDepth 100000
theorem and7 (n:Int):BitOk .and .i64 n 7 (n % 8):=by
 show n % 8=IntKind.i64.wrap (BitVec.ofInt 64 n &&& BitVec.ofInt 64 7).toNat
 have h:(BitVec.ofInt 64 n &&& BitVec.ofInt 64 7).toNat=(BitVec.ofInt 64 n).toNat % 8:=by
  rw[BitVec.toNat_and]
  exact Nat.and_two_pow_sub_one_eq_mod _ 3
 rw[h,BitVec.toNat_ofInt,IntKind.wrap_i64]
 omega
theorem rg_at {r:List Int} (h:r.length=8) (n:Int):(r.map uV)[(n % 8).toNat]? = some (.int .u64 (rg r n)):=by
 have hlt:(n % 8).toNat < r.length:=by omega
 simp[rg,uV,hlt]
theorem reg52 (A:Option Addr) (r:List Int) (n:Int) (w:World) (hr:r.length=8) (hA:RowAt w A (r.map uV)):CallsV Tryz.prog 51 [.int .i64 n,.pointer A] w fun v w'=>v=.int .u64 (rg r n)∧Fresh w w':=by
 have hs:A.isSome=true:=hA.isSome (j:=0) (by simp; omega)
 refine zj03 (keep:=K51) (nt:=8) (svs:=[.val (.int .i64 n),.adr A 0]) Tryz.func51 x51 n51 (by simp) (by cases A <;> simp[IsL,Is,Addr.add] at hs ⊢) fun R hR=>?_
 (refine Y_go 600 ?_; dsimp only[go_sem,Nat.reduceAdd,Nat.reduceBEq])
 refine⟨n % 8,and7 n,⟨by omega,by omega,hs⟩,rg r n,?_,?_⟩
 ·rw[Nat.mul_one,Nat.zero_add]; exact hA.cell (rg_at hr n)
 ·exact zj01 (vs:=[_]) r51 rfl rfl fun W hW=>hR _ _ ⟨rfl,hW.fresh'⟩
theorem set49 (A B:Option Addr) (x:In) (pc v:Int) (w:World) (hp:0≤pc∧pc < 1024) (hA:RowAt w A [.int .i64 pc]) (hB:RowAt w B x.cells):CallsV Tryz.prog 48 [.int .u64 v,.pointer A,.pointer B] w fun u w'=>u=Ef.val ⟨1,pc+1,x.a,v,0⟩∧Fresh w w':=by
 have hs:A.isSome=true:=hA.isSome (j:=0) (by simp)
 have ht:B.isSome=true:=hB.isSome (j:=0) (by simp[In.cells])
 refine zj03 (keep:=K48) (nt:=11) (svs:=[.val (.int .u64 v),.adr A 0,.adr B 0]) Tryz.func48 x48 n48 (by simp) (by cases A <;> cases B <;> simp[IsL,Is,Addr.add] at hs ht ⊢) fun R hR=>?_
 (refine Y_go 600 ?_; dsimp only[go_sem,Nat.reduceAdd,Nat.reduceBEq])
 intro g
 refine⟨_,hA.cell (j:=0) rfl,_,.to rfl (by omega) (by omega),ht,_,hB.cell (j:=1) rfl,?_⟩
 exact ret_rv (vs:=[Ef.val ⟨1,pc+1,x.a,v,0⟩]) r48 rfl rfl fun W hW=>hR _ _ ⟨rfl,hW.fresh'⟩
theorem goes50 (A B:Option Addr) (x:In) (pc:Int) (b:Bool) (w:World) (hp:0≤pc∧pc < 1024) (hA:RowAt w A [.int .i64 pc]) (hB:RowAt w B x.cells):CallsV Tryz.prog 49 [.bool b,.pointer A,.pointer B] w fun u w'=>u=Ef.val (goE x.imm pc b)∧Fresh w w':=by
 have hs:A.isSome=true:=hA.isSome (j:=0) (by simp)
 have ht:B.isSome=true:=hB.isSome (j:=0) (by simp[In.cells])
 refine zj03 (keep:=K49) (nt:=22) (svs:=[.val (.bool b),.adr A 0,.adr B 0]) Tryz.func49 x49 n49 (by simp) (by cases A <;> cases B <;> simp[IsL,Is,Addr.add] at hs ht ⊢) fun R hR=>?_
 (refine Y_go 600 ?_; dsimp only[go_sem,Nat.reduceAdd,Nat.reduceBEq])
 intro g
 refine⟨fun h=>?_,fun h=>?_⟩
 ·have h:b=false:=by cases b <;> first | rfl | cases h
  subst h
  refine⟨_,hA.cell (j:=0) rfl,_,.to rfl (by omega) (by omega),?_⟩
  exact ret_rv (vs:=[Ef.val ⟨2,pc+1,0,0,0⟩]) r49 rfl rfl fun W hW=>hR _ _ ⟨rfl,hW.fresh'⟩
 ·have h:b=true:=by cases b <;> first | rfl | cases h
  subst h
  refine⟨ht,_,hB.cell (j:=4) rfl,⟨fun h1=>?_,fun h1=>⟨ht,_,hB.cell (j:=4) rfl,⟨fun h2=>?_,fun h2=>?_⟩⟩⟩⟩
  ·have h1:=of_decide_eq_true h1
   exact ret_rv (vs:=[Ef.val Ef.zero]) r49 rfl rfl fun W hW=>hR _ _ ⟨by simp[goE,h1,tupOf],hW.fresh'⟩
  ·have h2:=of_decide_eq_true h2
   exact ret_rv (vs:=[Ef.val Ef.zero]) r49 rfl rfl fun W hW=>hR _ _ ⟨by have h3:1024 < x.imm:=h2; simp[goE,h3,tupOf],hW.fresh'⟩
  ·have h1:=of_decide_eq_false h1
   have h2:=of_decide_eq_false h2
   refine⟨ht,_,hB.cell (j:=4) rfl,?_⟩
   exact ret_rv (vs:=[Ef.val ⟨2,x.imm,0,0,0⟩]) r49 rfl rfl fun W hW=>hR _ _ ⟨by rw[goE,if_pos rfl,if_neg (by omega)]; rfl,hW.fresh'⟩
theorem plain51 (A:Option Addr) (k pc:Int) (w:World) (hp:0≤pc∧pc < 1024) (hA:RowAt w A [.int .i64 pc]):CallsV Tryz.prog 50 [.int .i64 k,.pointer A] w fun u w'=>u=Ef.val ⟨k,pc+1,0,0,0⟩∧Fresh w w':=by
 have hs:A.isSome=true:=hA.isSome (j:=0) (by simp)
 refine zj03 (keep:=K50) (nt:=8) (svs:=[.val (.int .i64 k),.adr A 0]) Tryz.func50 x50 n50 (by simp) (by cases A <;> simp[IsL,Is,Addr.add] at hs ⊢) fun R hR=>?_
 (refine Y_go 600 ?_; dsimp only[go_sem,Nat.reduceAdd,Nat.reduceBEq])
 intro g
 refine⟨_,hA.cell (j:=0) rfl,_,.to rfl (by omega) (by omega),?_⟩
 exact ret_rv (vs:=[Ef.val ⟨k,pc+1,0,0,0⟩]) r50 rfl rfl fun W hW=>hR _ _ ⟨rfl,hW.fresh'⟩
open Nat (reduceAdd reduceLT)
theorem wrapU (z:Int):IntKind.u64.wrap z=w64 z:=by simp[IntKind.wrap,IntKind.bits,IntKind.signed,w64]
theorem addU (a b:Int):ArOk .add .u64 a b (w64 (a+b)):=(wrapU _).symm
theorem subU (a b:Int):ArOk .sub .u64 a b (w64 (a - b)):=(wrapU _).symm
theorem mulU (a b:Int):ArOk .mul .u64 a b (w64 (a*b)):=(wrapU _).symm
theorem andU (a b:Int):BitOk .and .u64 a b (w64 (BitVec.ofInt 64 a &&& BitVec.ofInt 64 b).toNat):=(wrapU _).symm
theorem xorU (a b:Int):BitOk .xor .u64 a b (w64 (BitVec.ofInt 64 a ^^^ BitVec.ofInt 64 b).toNat):=(wrapU _).symm
theorem convU (a:Int):ConvOk .u64 a (w64 a):=(wrapU _).symm
theorem remU {c:Int} (h:isU c):DivOk .rem .u64 c 64 (c % 64):=.rem_nn h.1 (by omega)
theorem min64 (c:Int):min (c % 64).toNat IntKind.u64.bits=(c % 64).toNat:=by show min _ 64=_; omega
theorem shlU (b c:Int):ShOk .shl .u64 b (c % 64) (w64 (b*2 ^ (c % 64).toNat)):=by
 refine⟨by omega,?_⟩
 show _=IntKind.u64.wrap _
 rw[wrapU,min64]
theorem shrU (b c:Int):ShOk .shr .u64 b (c % 64) (b / 2 ^ (c % 64).toNat):=.shr _ (by omega) (by rw[min64])
theorem ok52:fnOk Tryz.prog 51=true:=by kernel_rfl
theorem ok51:fnOk Tryz.prog 50=true:=by kernel_rfl
theorem ok50:fnOk Tryz.prog 49=true:=by kernel_rfl
theorem ok49:fnOk Tryz.prog 48=true:=by kernel_rfl
def Ef.sv (e:Ef):SV:=.agg [.val (.int .i64 e.kind),.val (.int .i64 e.next),.val (.int .i64 e.reg),.val (.int .u64 e.value),.val (.int .u64 e.addr)]
theorem Ef.is (H:List SO) (e:Ef):Is H (Ef.sv e) (Ef.val e):=by
 simp only[Ef.sv,Is]; exact⟨e.cells,by simp[Ef.cells,IsL,Is],rfl⟩
set_option maxHeartbeats 8000000 in
theorem do24 (x:In) (r:List Int) (pc:Int) (w:World) (hG:ShAt w) (hr:r.length=8) (hU:∀ n ∈ r,isU n):CallsV Tryz.prog 27 [In.val x,.agg (r.map uV).toArray,.int .i64 pc] w fun v w'=>v=Ef.val (doB x r pc)∧Fresh w w':=by
 have hru:∀ n,isU (rg r n):=by
  intro n
  unfold rg
  rw[List.getD_eq_getElem?_getD]
  cases h:r[(n % 8).toNat]? with
  | none=>simp[isU]
  | some v=>exact hU _ (List.mem_of_getElem? h)
 obtain⟨r0,r1,r2,r3,r4,r5,r6,r7,rfl⟩:∃ r0 r1 r2 r3 r4 r5 r6 r7,r=[r0,r1,r2,r3,r4,r5,r6,r7]:=by
  match r,hr with
  | [a,b,c,d,e,f,g,h],_=>exact⟨a,b,c,d,e,f,g,h,rfl⟩
 refine zj03 (keep:=K27) (nt:=163) (svs:=[.agg (In.sv x),.agg [.val (.int .u64 r0),.val (.int .u64 r1),.val (.int .u64 r2),.val (.int .u64 r3),.val (.int .u64 r4),.val (.int .u64 r5),.val (.int .u64 r6),.val (.int .u64 r7)],.val (.int .i64 pc)]) Tryz.func27 x27 n27 (by simp) (by simp[IsL,Is,In.sv,In.val,In.cells,uV]) fun R hR=>?_
 (refine Y_go 600 ?_; dsimp only[go_sem,In.sv,reduceAdd,Nat.reduceBEq])
 intro g1 g2 g3 g4
 have fin:∀ (e:Ef) F H,doB x [r0,r1,r2,r3,r4,r5,r6,r7] pc=e→denR H F [RV.cell 6 5 true]=some [Ef.val e]→RetG (cxOf Tryz.prog Tryz.f27 K27 T27 R) ⟨w,w.heap.size,[],163,[]⟩ { F:=F,H:=H }:=by
  intro e F H he hd
  refine ret_rv (vs:=[Ef.val e]) r27 rfl hd fun W hW=>hR _ _ ⟨by rw[he]; rfl,hW.fresh'⟩
 cases hl:legalB x with
 | false =>
  refine zj00 (vs:=[In.val x]) rfl (fun W hW=>zj19 x W (hG.keep hW.fresh')) fun v hv=>⟨.bf,by rw[hv,hl]; simp[Is],?_⟩
  (refine Y_go 600 ?_; dsimp only[go_sem,Nat.reduceBEq,reduceAdd])
  exact fin Ef.zero _ _ (by simp[doB,hl]) rfl
 | true =>
  refine zj00 (vs:=[In.val x]) rfl (fun W hW=>zj19 x W (hG.keep hW.fresh')) fun v hv=>⟨.bt,by rw[hv,hl]; simp[Is],?_⟩
  (refine Y_go 600 ?_; dsimp only[go_sem,Nat.reduceBEq,reduceAdd])
  refine⟨fun h=>?_,fun h=>⟨fun h2=>?_,fun h2=>?_⟩⟩
  ·have h:=of_decide_eq_true h
   exact fin Ef.zero _ _ (by rw[doB,if_neg (by omega)]) rfl
  ·have h2:=of_decide_eq_true h2
   exact fin Ef.zero _ _ (by rw[doB,if_neg (by omega)]) rfl
  have h:=of_decide_eq_false h
  have h2:=of_decide_eq_false h2
  have hp:0≤pc∧pc < 1024:=by omega
  have hd:doB x [r0,r1,r2,r3,r4,r5,r6,r7] pc=doE x (rg [r0,r1,r2,r3,r4,r5,r6,r7] x.a) (rg [r0,r1,r2,r3,r4,r5,r6,r7] x.b) (rg [r0,r1,r2,r3,r4,r5,r6,r7] x.c) pc:=by rw[doB,if_pos ⟨hl,hp⟩]
  rw[hd] at fin
  have ua:=hru x.a; have ub:=hru x.b; have uc:=hru x.c
  -- GEN
  have rgc:∀ (n:Int) (W:World) (H:List SO),HeapOk ⟨w,w.heap.size,[],163,[]⟩ (.cells g1 47 [.val (.int .i64 x.op),.val (.int .i64 x.a),.val (.int .i64 x.b),.val (.int .i64 x.c),.val (.int .i64 x.imm)] :: .cells g2 24 [.val (.int .u64 r0),.val (.int .u64 r1),.val (.int .u64 r2),.val (.int .u64 r3),.val (.int .u64 r4),.val (.int .u64 r5),.val (.int .u64 r6),.val (.int .u64 r7)] :: H) W→CallsV Tryz.prog 51 [.int .i64 n,.pointer (some ⟨g2,0,none⟩)] W fun v W'=>v=.int .u64 (rg [r0,r1,r2,r3,r4,r5,r6,r7] n)∧Fresh W W':=fun n W H hW=>reg52 _ [r0,r1,r2,r3,r4,r5,r6,r7] n W rfl (hW.cellsAt (i:=1) rfl rfl)
  refine zj07 (f:=51) (fst:=[]) (caps:=[.pointer (some ⟨g2,0,none⟩)]) (vs:=[.int .i64 x.a]) rfl ok52 rfl (fun W hW=>rgc x.a W _ hW) fun v hv=>⟨.val (.int .u64 (rg [r0,r1,r2,r3,r4,r5,r6,r7] x.a)),by rw[hv]; simp[Is],?_⟩
  (refine Y_go 600 ?_; dsimp only[go_sem])
  (refine zj1f (by dsimp only[go_sem,Nat.reduceBEq,reduceAdd]; exact⟨rfl,zj06 rfl⟩) ?_; refine Y_go 600 ?_; dsimp only[go_sem])
  (refine zj1f (by dsimp only[go_sem,Nat.reduceBEq,reduceAdd]; exact⟨rfl,zj06 rfl⟩) ?_; refine Y_go 600 ?_; dsimp only[go_sem])
  refine zj07 (f:=51) (fst:=[]) (caps:=[.pointer (some ⟨g2,0,none⟩)]) (vs:=[.int .i64 x.b]) rfl ok52 rfl (fun W hW=>rgc x.b W _ hW) fun v hv=>⟨.val (.int .u64 (rg [r0,r1,r2,r3,r4,r5,r6,r7] x.b)),by rw[hv]; simp[Is],?_⟩
  (refine Y_go 600 ?_; dsimp only[go_sem])
  (refine zj1f (by dsimp only[go_sem,Nat.reduceBEq,reduceAdd]; exact⟨rfl,zj06 rfl⟩) ?_; refine Y_go 600 ?_; dsimp only[go_sem])
  refine zj07 (f:=51) (fst:=[]) (caps:=[.pointer (some ⟨g2,0,none⟩)]) (vs:=[.int .i64 x.c]) rfl ok52 rfl (fun W hW=>rgc x.c W _ hW) fun v hv=>⟨.val (.int .u64 (rg [r0,r1,r2,r3,r4,r5,r6,r7] x.c)),by rw[hv]; simp[Is],?_⟩
  (refine Y_go 600 ?_; dsimp only[go_sem,Nat.reduceBEq,reduceAdd])
  refine⟨_,convU _,_,addU _ _,?_⟩
  have pcA:∀ (W:World) (H:List SO) e1 e2,HeapOk ⟨w,w.heap.size,[],163,[]⟩ (e1 :: e2 :: .cells g3 3 [.val (.int .i64 pc)] :: H) W→RowAt W (some ⟨g3,0,none⟩) [.int .i64 pc]:=fun W H e1 e2 hW=>hW.cellsAt (i:=2) rfl rfl
  have inA:∀ (W:World) (H:List SO),HeapOk ⟨w,w.heap.size,[],163,[]⟩ (.cells g1 47 [.val (.int .i64 x.op),.val (.int .i64 x.a),.val (.int .i64 x.b),.val (.int .i64 x.c),.val (.int .i64 x.imm)] :: H) W→RowAt W (some ⟨g1,0,none⟩) x.cells:=fun W H hW=>hW.cellsAt (i:=0) rfl rfl
  refine⟨fun b1=>?_,fun n1=>⟨fun b2=>?_,fun n2=>⟨fun b3=>?_,fun n3=>⟨fun b4=>?_,fun n4=>⟨fun b5=>?_,fun n5=>⟨fun b6=>?_,fun n6=>⟨fun b7=>?_,fun n7=>⟨fun b8=>?_,fun n8=>⟨fun b9=>?_,fun n9=>⟨fun b10=>?_,fun n27=>⟨fun b11=>?_,fun n11=>⟨fun b12=>?_,fun n12=>⟨fun b13=>?_,fun n13=>⟨fun b14=>?_,fun n14=>⟨fun b15=>?_,fun n15=>⟨fun b16=>?_,fun n16=>⟨fun b17=>?_,fun n17=>?_⟩⟩⟩⟩⟩⟩⟩⟩⟩⟩⟩⟩⟩⟩⟩⟩⟩
  ·have e:=eq_of_beq b1
   refine zj07 (f:=50) (fst:=[]) (caps:=[.pointer (some ⟨g3,0,none⟩)]) (vs:=[.int .i64 7]) rfl ok51 rfl (fun W hW=>plain51 _ 7 pc W hp (pcA W _ _ _ hW)) fun v hv=>⟨Ef.sv ⟨7,pc+1,0,0,0⟩,by rw[hv]; exact Ef.is _ _,?_⟩
   (refine Y_go 600 ?_; dsimp only[go_sem,Ef.sv,Nat.reduceBEq,reduceAdd])
   refine fin (doE x (rg [r0,r1,r2,r3,r4,r5,r6,r7] x.a) (rg [r0,r1,r2,r3,r4,r5,r6,r7] x.b) (rg [r0,r1,r2,r3,r4,r5,r6,r7] x.c) pc) _ _ rfl ?_
   simp only[doE,e]; rfl
  ·have e:=eq_of_beq b2
   refine⟨_,convU _,?_⟩
   refine zj07 (f:=48) (fst:=[]) (caps:=[.pointer (some ⟨g3,0,none⟩),.pointer (some ⟨g1,0,none⟩)]) (vs:=[.int .u64 (w64 x.imm)]) rfl ok49 rfl (fun W hW=>set49 _ _ x pc _ W hp (pcA W _ _ _ hW) (inA W _ hW)) fun v hv=>⟨Ef.sv ⟨1,pc+1,x.a,w64 x.imm,0⟩,by rw[hv]; exact Ef.is _ _,?_⟩
   (refine Y_go 600 ?_; dsimp only[go_sem,Ef.sv,Nat.reduceBEq,reduceAdd])
   refine fin (doE x (rg [r0,r1,r2,r3,r4,r5,r6,r7] x.a) (rg [r0,r1,r2,r3,r4,r5,r6,r7] x.b) (rg [r0,r1,r2,r3,r4,r5,r6,r7] x.c) pc) _ _ rfl ?_
   simp only[doE,e]; rfl
  ·have e:=eq_of_beq b3
   refine zj07 (f:=48) (fst:=[]) (caps:=[.pointer (some ⟨g3,0,none⟩),.pointer (some ⟨g1,0,none⟩)]) (vs:=[.int .u64 (rg [r0,r1,r2,r3,r4,r5,r6,r7] x.b)]) rfl ok49 rfl (fun W hW=>set49 _ _ x pc _ W hp (pcA W _ _ _ hW) (inA W _ hW)) fun v hv=>⟨Ef.sv ⟨1,pc+1,x.a,rg [r0,r1,r2,r3,r4,r5,r6,r7] x.b,0⟩,by rw[hv]; exact Ef.is _ _,?_⟩
   (refine Y_go 600 ?_; dsimp only[go_sem,Ef.sv,Nat.reduceBEq,reduceAdd])
   refine fin (doE x (rg [r0,r1,r2,r3,r4,r5,r6,r7] x.a) (rg [r0,r1,r2,r3,r4,r5,r6,r7] x.b) (rg [r0,r1,r2,r3,r4,r5,r6,r7] x.c) pc) _ _ rfl ?_
   simp only[doE,e]; rfl
  ·have e:=eq_of_beq b4
   refine⟨_,addU _ _,?_⟩
   refine zj07 (f:=48) (fst:=[]) (caps:=[.pointer (some ⟨g3,0,none⟩),.pointer (some ⟨g1,0,none⟩)]) (vs:=[.int .u64 (w64 (rg [r0,r1,r2,r3,r4,r5,r6,r7] x.b+rg [r0,r1,r2,r3,r4,r5,r6,r7] x.c))]) rfl ok49 rfl (fun W hW=>set49 _ _ x pc _ W hp (pcA W _ _ _ hW) (inA W _ hW)) fun v hv=>⟨Ef.sv ⟨1,pc+1,x.a,w64 (rg [r0,r1,r2,r3,r4,r5,r6,r7] x.b+rg [r0,r1,r2,r3,r4,r5,r6,r7] x.c),0⟩,by rw[hv]; exact Ef.is _ _,?_⟩
   (refine Y_go 600 ?_; dsimp only[go_sem,Ef.sv,Nat.reduceBEq,reduceAdd])
   refine fin (doE x (rg [r0,r1,r2,r3,r4,r5,r6,r7] x.a) (rg [r0,r1,r2,r3,r4,r5,r6,r7] x.b) (rg [r0,r1,r2,r3,r4,r5,r6,r7] x.c) pc) _ _ rfl ?_
   simp only[doE,e]; rfl
  ·have e:=eq_of_beq b5
   refine⟨_,subU _ _,?_⟩
   refine zj07 (f:=48) (fst:=[]) (caps:=[.pointer (some ⟨g3,0,none⟩),.pointer (some ⟨g1,0,none⟩)]) (vs:=[.int .u64 (w64 (rg [r0,r1,r2,r3,r4,r5,r6,r7] x.b - rg [r0,r1,r2,r3,r4,r5,r6,r7] x.c))]) rfl ok49 rfl (fun W hW=>set49 _ _ x pc _ W hp (pcA W _ _ _ hW) (inA W _ hW)) fun v hv=>⟨Ef.sv ⟨1,pc+1,x.a,w64 (rg [r0,r1,r2,r3,r4,r5,r6,r7] x.b - rg [r0,r1,r2,r3,r4,r5,r6,r7] x.c),0⟩,by rw[hv]; exact Ef.is _ _,?_⟩
   (refine Y_go 600 ?_; dsimp only[go_sem,Ef.sv,Nat.reduceBEq,reduceAdd])
   refine fin (doE x (rg [r0,r1,r2,r3,r4,r5,r6,r7] x.a) (rg [r0,r1,r2,r3,r4,r5,r6,r7] x.b) (rg [r0,r1,r2,r3,r4,r5,r6,r7] x.c) pc) _ _ rfl ?_
   simp only[doE,e]; rfl
  ·have e:=eq_of_beq b6
   refine⟨_,mulU _ _,?_⟩
   refine zj07 (f:=48) (fst:=[]) (caps:=[.pointer (some ⟨g3,0,none⟩),.pointer (some ⟨g1,0,none⟩)]) (vs:=[.int .u64 (w64 (rg [r0,r1,r2,r3,r4,r5,r6,r7] x.b*rg [r0,r1,r2,r3,r4,r5,r6,r7] x.c))]) rfl ok49 rfl (fun W hW=>set49 _ _ x pc _ W hp (pcA W _ _ _ hW) (inA W _ hW)) fun v hv=>⟨Ef.sv ⟨1,pc+1,x.a,w64 (rg [r0,r1,r2,r3,r4,r5,r6,r7] x.b*rg [r0,r1,r2,r3,r4,r5,r6,r7] x.c),0⟩,by rw[hv]; exact Ef.is _ _,?_⟩
   (refine Y_go 600 ?_; dsimp only[go_sem,Ef.sv,Nat.reduceBEq,reduceAdd])
   refine fin (doE x (rg [r0,r1,r2,r3,r4,r5,r6,r7] x.a) (rg [r0,r1,r2,r3,r4,r5,r6,r7] x.b) (rg [r0,r1,r2,r3,r4,r5,r6,r7] x.c) pc) _ _ rfl ?_
   simp only[doE,e]; rfl
  ·have e:=eq_of_beq b7
   refine⟨_,andU _ _,?_⟩
   refine zj07 (f:=48) (fst:=[]) (caps:=[.pointer (some ⟨g3,0,none⟩),.pointer (some ⟨g1,0,none⟩)]) (vs:=[.int .u64 (w64 (BitVec.ofInt 64 (rg [r0,r1,r2,r3,r4,r5,r6,r7] x.b) &&& BitVec.ofInt 64 (rg [r0,r1,r2,r3,r4,r5,r6,r7] x.c)).toNat)]) rfl ok49 rfl (fun W hW=>set49 _ _ x pc _ W hp (pcA W _ _ _ hW) (inA W _ hW)) fun v hv=>⟨Ef.sv ⟨1,pc+1,x.a,w64 (BitVec.ofInt 64 (rg [r0,r1,r2,r3,r4,r5,r6,r7] x.b) &&& BitVec.ofInt 64 (rg [r0,r1,r2,r3,r4,r5,r6,r7] x.c)).toNat,0⟩,by rw[hv]; exact Ef.is _ _,?_⟩
   (refine Y_go 600 ?_; dsimp only[go_sem,Ef.sv,Nat.reduceBEq,reduceAdd])
   refine fin (doE x (rg [r0,r1,r2,r3,r4,r5,r6,r7] x.a) (rg [r0,r1,r2,r3,r4,r5,r6,r7] x.b) (rg [r0,r1,r2,r3,r4,r5,r6,r7] x.c) pc) _ _ rfl ?_
   simp only[doE,e]; rfl
  ·have e:=eq_of_beq b8
   refine⟨_,xorU _ _,?_⟩
   refine zj07 (f:=48) (fst:=[]) (caps:=[.pointer (some ⟨g3,0,none⟩),.pointer (some ⟨g1,0,none⟩)]) (vs:=[.int .u64 (w64 (BitVec.ofInt 64 (rg [r0,r1,r2,r3,r4,r5,r6,r7] x.b) ^^^ BitVec.ofInt 64 (rg [r0,r1,r2,r3,r4,r5,r6,r7] x.c)).toNat)]) rfl ok49 rfl (fun W hW=>set49 _ _ x pc _ W hp (pcA W _ _ _ hW) (inA W _ hW)) fun v hv=>⟨Ef.sv ⟨1,pc+1,x.a,w64 (BitVec.ofInt 64 (rg [r0,r1,r2,r3,r4,r5,r6,r7] x.b) ^^^ BitVec.ofInt 64 (rg [r0,r1,r2,r3,r4,r5,r6,r7] x.c)).toNat,0⟩,by rw[hv]; exact Ef.is _ _,?_⟩
   (refine Y_go 600 ?_; dsimp only[go_sem,Ef.sv,Nat.reduceBEq,reduceAdd])
   refine fin (doE x (rg [r0,r1,r2,r3,r4,r5,r6,r7] x.a) (rg [r0,r1,r2,r3,r4,r5,r6,r7] x.b) (rg [r0,r1,r2,r3,r4,r5,r6,r7] x.c) pc) _ _ rfl ?_
   simp only[doE,e]; rfl
  ·have e:=eq_of_beq b9
   refine⟨_,remU uc,_,shlU _ _,?_⟩
   refine zj07 (f:=48) (fst:=[]) (caps:=[.pointer (some ⟨g3,0,none⟩),.pointer (some ⟨g1,0,none⟩)]) (vs:=[.int .u64 (w64 (rg [r0,r1,r2,r3,r4,r5,r6,r7] x.b*2 ^ (rg [r0,r1,r2,r3,r4,r5,r6,r7] x.c % 64).toNat))]) rfl ok49 rfl (fun W hW=>set49 _ _ x pc _ W hp (pcA W _ _ _ hW) (inA W _ hW)) fun v hv=>⟨Ef.sv ⟨1,pc+1,x.a,w64 (rg [r0,r1,r2,r3,r4,r5,r6,r7] x.b*2 ^ (rg [r0,r1,r2,r3,r4,r5,r6,r7] x.c % 64).toNat),0⟩,by rw[hv]; exact Ef.is _ _,?_⟩
   (refine Y_go 600 ?_; dsimp only[go_sem,Ef.sv,Nat.reduceBEq,reduceAdd])
   refine fin (doE x (rg [r0,r1,r2,r3,r4,r5,r6,r7] x.a) (rg [r0,r1,r2,r3,r4,r5,r6,r7] x.b) (rg [r0,r1,r2,r3,r4,r5,r6,r7] x.c) pc) _ _ rfl ?_
   simp only[doE,e]; rfl
  ·have e:=eq_of_beq b10
   refine⟨_,remU uc,_,shrU _ _,?_⟩
   refine zj07 (f:=48) (fst:=[]) (caps:=[.pointer (some ⟨g3,0,none⟩),.pointer (some ⟨g1,0,none⟩)]) (vs:=[.int .u64 (rg [r0,r1,r2,r3,r4,r5,r6,r7] x.b / 2 ^ (rg [r0,r1,r2,r3,r4,r5,r6,r7] x.c % 64).toNat)]) rfl ok49 rfl (fun W hW=>set49 _ _ x pc _ W hp (pcA W _ _ _ hW) (inA W _ hW)) fun v hv=>⟨Ef.sv ⟨1,pc+1,x.a,rg [r0,r1,r2,r3,r4,r5,r6,r7] x.b / 2 ^ (rg [r0,r1,r2,r3,r4,r5,r6,r7] x.c % 64).toNat,0⟩,by rw[hv]; exact Ef.is _ _,?_⟩
   (refine Y_go 600 ?_; dsimp only[go_sem,Ef.sv,Nat.reduceBEq,reduceAdd])
   refine fin (doE x (rg [r0,r1,r2,r3,r4,r5,r6,r7] x.a) (rg [r0,r1,r2,r3,r4,r5,r6,r7] x.b) (rg [r0,r1,r2,r3,r4,r5,r6,r7] x.c) pc) _ _ rfl ?_
   simp only[doE,e]; rfl
  ·have e:=eq_of_beq b11
   refine⟨_,.to rfl (by omega) (by omega),?_⟩
   refine fin (doE x (rg [r0,r1,r2,r3,r4,r5,r6,r7] x.a) (rg [r0,r1,r2,r3,r4,r5,r6,r7] x.b) (rg [r0,r1,r2,r3,r4,r5,r6,r7] x.c) pc) _ _ rfl ?_
   simp only[doE,e]; rfl
  ·have e:=eq_of_beq b12
   refine⟨_,.to rfl (by omega) (by omega),?_⟩
   refine fin (doE x (rg [r0,r1,r2,r3,r4,r5,r6,r7] x.a) (rg [r0,r1,r2,r3,r4,r5,r6,r7] x.b) (rg [r0,r1,r2,r3,r4,r5,r6,r7] x.c) pc) _ _ rfl ?_
   simp only[doE,e]; rfl
  ·have e:=eq_of_beq b13
   refine zj07 (f:=49) (fst:=[]) (caps:=[.pointer (some ⟨g3,0,none⟩),.pointer (some ⟨g1,0,none⟩)]) (vs:=[.bool (true)]) rfl ok50 rfl (fun W hW=>goes50 _ _ x pc _ W hp (pcA W _ _ _ hW) (inA W _ hW)) fun v hv=>⟨Ef.sv (goE x.imm pc (true)),by rw[hv]; exact Ef.is _ _,?_⟩
   (refine Y_go 600 ?_; dsimp only[go_sem,Ef.sv,Nat.reduceBEq,reduceAdd])
   refine fin (doE x (rg [r0,r1,r2,r3,r4,r5,r6,r7] x.a) (rg [r0,r1,r2,r3,r4,r5,r6,r7] x.b) (rg [r0,r1,r2,r3,r4,r5,r6,r7] x.c) pc) _ _ rfl ?_
   simp only[doE,e]; rfl
  ·have e:=eq_of_beq b14
   refine zj07 (f:=49) (fst:=[]) (caps:=[.pointer (some ⟨g3,0,none⟩),.pointer (some ⟨g1,0,none⟩)]) (vs:=[.bool (rg [r0,r1,r2,r3,r4,r5,r6,r7] x.a == rg [r0,r1,r2,r3,r4,r5,r6,r7] x.b)]) rfl ok50 rfl (fun W hW=>goes50 _ _ x pc _ W hp (pcA W _ _ _ hW) (inA W _ hW)) fun v hv=>⟨Ef.sv (goE x.imm pc (rg [r0,r1,r2,r3,r4,r5,r6,r7] x.a == rg [r0,r1,r2,r3,r4,r5,r6,r7] x.b)),by rw[hv]; exact Ef.is _ _,?_⟩
   (refine Y_go 600 ?_; dsimp only[go_sem,Ef.sv,Nat.reduceBEq,reduceAdd])
   refine fin (doE x (rg [r0,r1,r2,r3,r4,r5,r6,r7] x.a) (rg [r0,r1,r2,r3,r4,r5,r6,r7] x.b) (rg [r0,r1,r2,r3,r4,r5,r6,r7] x.c) pc) _ _ rfl ?_
   simp only[doE,e]; rfl
  ·have e:=eq_of_beq b15
   refine zj07 (f:=49) (fst:=[]) (caps:=[.pointer (some ⟨g3,0,none⟩),.pointer (some ⟨g1,0,none⟩)]) (vs:=[.bool (rg [r0,r1,r2,r3,r4,r5,r6,r7] x.a != rg [r0,r1,r2,r3,r4,r5,r6,r7] x.b)]) rfl ok50 rfl (fun W hW=>goes50 _ _ x pc _ W hp (pcA W _ _ _ hW) (inA W _ hW)) fun v hv=>⟨Ef.sv (goE x.imm pc (rg [r0,r1,r2,r3,r4,r5,r6,r7] x.a != rg [r0,r1,r2,r3,r4,r5,r6,r7] x.b)),by rw[hv]; exact Ef.is _ _,?_⟩
   (refine Y_go 600 ?_; dsimp only[go_sem,Ef.sv,Nat.reduceBEq,reduceAdd])
   refine fin (doE x (rg [r0,r1,r2,r3,r4,r5,r6,r7] x.a) (rg [r0,r1,r2,r3,r4,r5,r6,r7] x.b) (rg [r0,r1,r2,r3,r4,r5,r6,r7] x.c) pc) _ _ rfl ?_
   simp only[doE,e]; rfl
  ·have e:=eq_of_beq b16
   refine zj07 (f:=49) (fst:=[]) (caps:=[.pointer (some ⟨g3,0,none⟩),.pointer (some ⟨g1,0,none⟩)]) (vs:=[.bool (decide (rg [r0,r1,r2,r3,r4,r5,r6,r7] x.a < rg [r0,r1,r2,r3,r4,r5,r6,r7] x.b))]) rfl ok50 rfl (fun W hW=>goes50 _ _ x pc _ W hp (pcA W _ _ _ hW) (inA W _ hW)) fun v hv=>⟨Ef.sv (goE x.imm pc (decide (rg [r0,r1,r2,r3,r4,r5,r6,r7] x.a < rg [r0,r1,r2,r3,r4,r5,r6,r7] x.b))),by rw[hv]; exact Ef.is _ _,?_⟩
   (refine Y_go 600 ?_; dsimp only[go_sem,Ef.sv,Nat.reduceBEq,reduceAdd])
   refine fin (doE x (rg [r0,r1,r2,r3,r4,r5,r6,r7] x.a) (rg [r0,r1,r2,r3,r4,r5,r6,r7] x.b) (rg [r0,r1,r2,r3,r4,r5,r6,r7] x.c) pc) _ _ rfl ?_
   simp only[doE,e]; rfl
  ·have e:=eq_of_beq b17
   refine zj07 (f:=50) (fst:=[]) (caps:=[.pointer (some ⟨g3,0,none⟩)]) (vs:=[.int .i64 5]) rfl ok51 rfl (fun W hW=>plain51 _ 5 pc W hp (pcA W _ _ _ hW)) fun v hv=>⟨Ef.sv ⟨5,pc+1,0,0,0⟩,by rw[hv]; exact Ef.is _ _,?_⟩
   (refine Y_go 600 ?_; dsimp only[go_sem,Ef.sv,Nat.reduceBEq,reduceAdd])
   refine fin (doE x (rg [r0,r1,r2,r3,r4,r5,r6,r7] x.a) (rg [r0,r1,r2,r3,r4,r5,r6,r7] x.b) (rg [r0,r1,r2,r3,r4,r5,r6,r7] x.c) pc) _ _ rfl ?_
   simp only[doE,e]; rfl
  ·refine zj07 (f:=50) (fst:=[]) (caps:=[.pointer (some ⟨g3,0,none⟩)]) (vs:=[.int .i64 6]) rfl ok51 rfl (fun W hW=>plain51 _ 6 pc W hp (pcA W _ _ _ hW)) fun v hv=>⟨Ef.sv ⟨6,pc+1,0,0,0⟩,by rw[hv]; exact Ef.is _ _,?_⟩
   (refine Y_go 600 ?_; dsimp only[go_sem,Ef.sv,Nat.reduceBEq,reduceAdd])
   refine fin (doE x (rg [r0,r1,r2,r3,r4,r5,r6,r7] x.a) (rg [r0,r1,r2,r3,r4,r5,r6,r7] x.b) (rg [r0,r1,r2,r3,r4,r5,r6,r7] x.c) pc) _ _ rfl ?_
   have ne:∀ k:Int,(x.op == k)=false→¬ x.op=k:=fun k h=>by simpa using h
   rw[doE,if_neg (ne _ n1),if_neg (ne _ n2),if_neg (ne _ n3),if_neg (ne _ n4),if_neg (ne _ n5),if_neg (ne _ n6),if_neg (ne _ n7),if_neg (ne _ n8),if_neg (ne _ n9),if_neg (ne _ n27),if_neg (ne _ n11),if_neg (ne _ n12),if_neg (ne _ n13),if_neg (ne _ n14),if_neg (ne _ n15),if_neg (ne _ n16),if_neg (ne _ n17)]; rfl
end Go.Proofs.YtgghmmjoplddbaaGreatDoor
