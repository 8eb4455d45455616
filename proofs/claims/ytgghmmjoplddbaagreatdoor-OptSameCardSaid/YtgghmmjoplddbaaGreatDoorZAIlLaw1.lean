/- The walk: an instruction's line (isa.Text): its numbers by their letters; whether it is plain. -/
import Derived.Test.YtgghmmjoplddbaaGreatDoorZAsCodeIsa
import Derived.Test.YtgghmmjoplddbaaGreatDoorZBgIsa1
set_option linter.unusedSimpArgs false
set_option linter.unusedVariables false
set_option linter.unnecessarySimpa false
namespace Go.Proofs.YtgghmmjoplddbaaGreatDoor
open Go Go.Sx Go.Isa
open Nat (reduceAdd reduceLT)
set_option maxRecDepth 100000
theorem zj1p (g:Nat) (c:Int) (w:World):CallsV Tryz.prog 142 [.pointer (some ⟨g,0,none⟩),.int .u8 c] w fun v w'=>v=.pointer (some ⟨g,fo c,none⟩)∧Fresh w w':=by
 refine zj03 (keep:=K142) (nt:=29) (svs:=[.adr (some ⟨g,0,none⟩) 0,.val (.int .u8 c)]) Tryz.func142 x142 n142 (by simp) (by simp[IsL,Is,Addr.add]) fun R hR=>?_
 (refine Y_go 600 ?_; dsimp only[go_sem,reduceAdd,Nat.reduceBEq])
 have fin:∀ F H k,fo c=k→denAll H F [4]=some [.pointer (some ((⟨g,0,none⟩:Addr).add k))]→RetG (cxOf Tryz.prog Tryz.f142 K142 T142 R) ⟨w,w.heap.size,[],29,[]⟩ { F:=F,H:=H }:=fun F H k hk hd =>
  zj01 r142 rfl hd fun W hW=>hR _ _ ⟨by rw[hk]; show Value.pointer (some ((⟨g,0,none⟩:Addr).add k))=_; congr 2; unfold Addr.add; split <;> simp_all,hW.fresh'⟩
 refine⟨fun h1=>⟨rfl,rfl,fin _ _ 1 (by have:=eq_of_beq h1; simp[fo,this]) rfl⟩,fun h1=>⟨fun h2=>⟨rfl,rfl,fin _ _ 2 (by have:=eq_of_beq h2; simp[fo,this]) rfl⟩,fun h2=>⟨fun h3=>⟨rfl,rfl,fin _ _ 3 (by have:=eq_of_beq h3; simp[fo,this]) rfl⟩,fun h3=>⟨fun h4=>⟨rfl,rfl,fin _ _ 4 (by have:=eq_of_beq h4; simp[fo,this]) rfl⟩,fun h4=>⟨rfl,rfl,fin _ _ 0 (by simp at h1 h2 h3 h4; simp[fo,h1,h2,h3,h4]) rfl⟩⟩⟩⟩⟩
theorem plain40 (x:In) (w:World) (hG:ShAt w):CallsV Tryz.prog 167 [In.val x] w fun v w'=>v=.bool (plainB x)∧Fresh w w':=by
 refine zj03 (keep:=K167) (nt:=31) (svs:=[.agg (In.sv x)]) Tryz.func167 x167 n167 (by simp) (by simp only[IsL]; exact⟨_,_,In.is _ x,rfl,rfl⟩) fun R hR=>?_
 (refine Y_go 600 ?_; dsimp only[go_sem,In.sv,reduceAdd,Nat.reduceBEq])
 intro g
 refine zj00 (vs:=[In.val x]) rfl (fun W hW=>zj19 x W (hG.keep hW.fresh')) fun v hv=>⟨.val (.bool (legalB x)),by rw[hv]; simp[Is],?_⟩
 (refine Y_go 600 ?_; dsimp only[go_sem,Nat.reduceBEq,Nat.reduceMul,reduceAdd])
 refine⟨fun h=>zj01 (vs:=[_]) r167 rfl rfl fun W hW=>hR _ _ ⟨?_,hW.fresh'⟩,fun h g1=>?_⟩
 ·have h:legalB x=false:=by simpa using h
  rw[plainB,h]; rfl
 have hl:legalB x=true:=by simpa using h
 have hop:isOp x.op=true:=by
  have:=hl
  simp only[legalB,Bool.and_eq_true] at this
  exact this.1.1.1
 have hr:1≤x.op∧x.op≤18:=by rw[isOp,Bool.and_eq_true] at hop; exact⟨of_decide_eq_true hop.1,of_decide_eq_true hop.2⟩
 refine zj08 (α:=Nat) (fun k=>k≤4∧(1≤k→ok1 x 65=true)∧(2≤k→ok1 x 66=true)∧(3≤k→ok1 x 67=true)∧(4≤k→ok1 x 73=true)) (fun _=>⟨w,w.heap.size,[],31,[]⟩)
  (fun k=>{ F:=[(1,.ptr 0 0),(9,.slc 1 0 4 4),(10,.val (.int .i64 4)),(11,.val (.int .i64 k))],H:=[.cells g 47 [.val (.int .i64 x.op),.val (.int .i64 x.a),.val (.int .i64 x.b),.val (.int .i64 x.c),.val (.int .i64 x.imm)],.frz g1 5 [.int .u8 65,.int .u8 66,.int .u8 67,.int .u8 73]] }) (fun k=>4 - k) (fun _=>rfl) ?start ?round
 case start =>
  intro a W rep
  exact⟨0,⟨Nat.zero_le _,fun h=>absurd h (by omega),fun h=>absurd h (by omega),fun h=>absurd h (by omega),fun h=>absurd h (by omega)⟩,rep.lq⟩
 case round =>
  rintro k ⟨hk,k1,k2,k3,k4⟩ I hI
  (refine Y_go 600 ?_; dsimp only[go_sem,Nat.reduceBEq,reduceAdd])
  have ret:∀ F H,plainB x=false→denAll H F [2]=some [.bool false]→RetG (cxOf Tryz.prog Tryz.f167 K167 T167 R) ⟨w,w.heap.size,[],31,[]⟩ { F:=F,H:=H }:=fun F H hp hd =>
   zj01 r167 rfl hd fun W hW=>hR _ _ ⟨by rw[hp]; rfl,hW.fresh'⟩
  have hcase:k=0∨k=1∨k=2∨k=3∨k=4:=by omega
  rcases hcase with rfl | rfl | rfl | rfl | rfl
  ·refine⟨fun _=>⟨⟨by omega,by omega⟩,65,rfl,⟨by omega,by omega,rfl⟩,rfl,⟨⟨nmL x.op⟩⟩,hG.cell (sh_get hop),?_⟩,fun h=>absurd h (by decide)⟩
   refine zj00 (vs:=[.string ⟨⟨nmL x.op⟩⟩,.int .u8 65]) rfl (fun W hW=>idx38 _ 65 W) fun v hv=>⟨.val (.int .i64 (Lib.indexByte (nmL x.op) (65:Int).toNat.toUInt8)),by rw[hv]; simp only[Is],?_⟩
   (refine Y_go 600 ?_; dsimp only[go_sem,Int.reduceToNat,Nat.reduceBEq])
   refine⟨fun hlt=>?_,fun hlt=>?_⟩
   ·have hn:hasL x.op 65=false:=by
     have:Lib.indexByte (nmL x.op) (65:Int).toNat.toUInt8 < 0:=of_decide_eq_true hlt
     exact decide_eq_false (by omega)
    refine zj00 (vs:=[.pointer (some ⟨g,0,none⟩),.int .u8 65]) rfl (fun W hW=>zj1p g 65 W) fun v hv=>⟨.ptr 0 1,by rw[hv]; simp only[Is]; exact⟨g,rfl,rfl⟩,?_⟩
    (refine Y_go 600 ?_; dsimp only[go_sem,Nat.reduceBEq,reduceAdd])
    refine⟨fun hne=>ret _ _ ?_ rfl,fun hne=>⟨_,.add64 (by omega) (by omega),zj02 fun a W rep=>hI 1 ⟨by omega,fun _=>?_,fun h=>absurd h (by omega),fun h=>absurd h (by omega),fun h=>absurd h (by omega)⟩ (by omega) a W (rep.lq)⟩⟩
    ·have h0:x.a ≠ 0:=by simpa using hne
     have:ok1 x 65=false:=by rw[ok1,hn,Bool.false_or]; exact beq_eq_false_iff_ne.2 h0
     rw[plainB,this]; simp
    ·have h0:x.a=0:=by simpa using hne
     rw[ok1,hn,Bool.false_or]; exact beq_iff_eq.2 h0
   ·have hn:hasL x.op 65=true:=by
     have:¬ Lib.indexByte (nmL x.op) (65:Int).toNat.toUInt8 < 0:=of_decide_eq_false hlt
     exact decide_eq_true (by omega)
    refine⟨_,.add64 (by omega) (by omega),zj02 fun a W rep=>hI 1 ⟨by omega,fun _=>?_,fun h=>absurd h (by omega),fun h=>absurd h (by omega),fun h=>absurd h (by omega)⟩ (by omega) a W (rep.lq)⟩
    rw[ok1,hn]; rfl
  ·refine⟨fun _=>⟨⟨by omega,by omega⟩,66,rfl,⟨by omega,by omega,rfl⟩,rfl,⟨⟨nmL x.op⟩⟩,hG.cell (sh_get hop),?_⟩,fun h=>absurd h (by decide)⟩
   refine zj00 (vs:=[.string ⟨⟨nmL x.op⟩⟩,.int .u8 66]) rfl (fun W hW=>idx38 _ 66 W) fun v hv=>⟨.val (.int .i64 (Lib.indexByte (nmL x.op) (66:Int).toNat.toUInt8)),by rw[hv]; simp only[Is],?_⟩
   (refine Y_go 600 ?_; dsimp only[go_sem,Int.reduceToNat,Nat.reduceBEq])
   refine⟨fun hlt=>?_,fun hlt=>?_⟩
   ·have hn:hasL x.op 66=false:=by
     have:Lib.indexByte (nmL x.op) (66:Int).toNat.toUInt8 < 0:=of_decide_eq_true hlt
     exact decide_eq_false (by omega)
    refine zj00 (vs:=[.pointer (some ⟨g,0,none⟩),.int .u8 66]) rfl (fun W hW=>zj1p g 66 W) fun v hv=>⟨.ptr 0 2,by rw[hv]; simp only[Is]; exact⟨g,rfl,rfl⟩,?_⟩
    (refine Y_go 600 ?_; dsimp only[go_sem,Nat.reduceBEq,reduceAdd])
    refine⟨fun hne=>ret _ _ ?_ rfl,fun hne=>⟨_,.add64 (by omega) (by omega),zj02 fun a W rep=>hI 2 ⟨by omega,fun _=>k1 (by omega),fun _=>?_,fun h=>absurd h (by omega),fun h=>absurd h (by omega)⟩ (by omega) a W (rep.lq)⟩⟩
    ·have h0:x.b ≠ 0:=by simpa using hne
     have:ok1 x 66=false:=by rw[ok1,hn,Bool.false_or]; exact beq_eq_false_iff_ne.2 h0
     rw[plainB,this]; simp
    ·have h0:x.b=0:=by simpa using hne
     rw[ok1,hn,Bool.false_or]; exact beq_iff_eq.2 h0
   ·have hn:hasL x.op 66=true:=by
     have:¬ Lib.indexByte (nmL x.op) (66:Int).toNat.toUInt8 < 0:=of_decide_eq_false hlt
     exact decide_eq_true (by omega)
    refine⟨_,.add64 (by omega) (by omega),zj02 fun a W rep=>hI 2 ⟨by omega,fun _=>k1 (by omega),fun _=>?_,fun h=>absurd h (by omega),fun h=>absurd h (by omega)⟩ (by omega) a W (rep.lq)⟩
    rw[ok1,hn]; rfl
  ·refine⟨fun _=>⟨⟨by omega,by omega⟩,67,rfl,⟨by omega,by omega,rfl⟩,rfl,⟨⟨nmL x.op⟩⟩,hG.cell (sh_get hop),?_⟩,fun h=>absurd h (by decide)⟩
   refine zj00 (vs:=[.string ⟨⟨nmL x.op⟩⟩,.int .u8 67]) rfl (fun W hW=>idx38 _ 67 W) fun v hv=>⟨.val (.int .i64 (Lib.indexByte (nmL x.op) (67:Int).toNat.toUInt8)),by rw[hv]; simp only[Is],?_⟩
   (refine Y_go 600 ?_; dsimp only[go_sem,Int.reduceToNat,Nat.reduceBEq])
   refine⟨fun hlt=>?_,fun hlt=>?_⟩
   ·have hn:hasL x.op 67=false:=by
     have:Lib.indexByte (nmL x.op) (67:Int).toNat.toUInt8 < 0:=of_decide_eq_true hlt
     exact decide_eq_false (by omega)
    refine zj00 (vs:=[.pointer (some ⟨g,0,none⟩),.int .u8 67]) rfl (fun W hW=>zj1p g 67 W) fun v hv=>⟨.ptr 0 3,by rw[hv]; simp only[Is]; exact⟨g,rfl,rfl⟩,?_⟩
    (refine Y_go 600 ?_; dsimp only[go_sem,Nat.reduceBEq,reduceAdd])
    refine⟨fun hne=>ret _ _ ?_ rfl,fun hne=>⟨_,.add64 (by omega) (by omega),zj02 fun a W rep=>hI 3 ⟨by omega,fun _=>k1 (by omega),fun _=>k2 (by omega),fun _=>?_,fun h=>absurd h (by omega)⟩ (by omega) a W (rep.lq)⟩⟩
    ·have h0:x.c ≠ 0:=by simpa using hne
     have:ok1 x 67=false:=by rw[ok1,hn,Bool.false_or]; exact beq_eq_false_iff_ne.2 h0
     rw[plainB,this]; simp
    ·have h0:x.c=0:=by simpa using hne
     rw[ok1,hn,Bool.false_or]; exact beq_iff_eq.2 h0
   ·have hn:hasL x.op 67=true:=by
     have:¬ Lib.indexByte (nmL x.op) (67:Int).toNat.toUInt8 < 0:=of_decide_eq_false hlt
     exact decide_eq_true (by omega)
    refine⟨_,.add64 (by omega) (by omega),zj02 fun a W rep=>hI 3 ⟨by omega,fun _=>k1 (by omega),fun _=>k2 (by omega),fun _=>?_,fun h=>absurd h (by omega)⟩ (by omega) a W (rep.lq)⟩
    rw[ok1,hn]; rfl
  ·refine⟨fun _=>⟨⟨by omega,by omega⟩,73,rfl,⟨by omega,by omega,rfl⟩,rfl,⟨⟨nmL x.op⟩⟩,hG.cell (sh_get hop),?_⟩,fun h=>absurd h (by decide)⟩
   refine zj00 (vs:=[.string ⟨⟨nmL x.op⟩⟩,.int .u8 73]) rfl (fun W hW=>idx38 _ 73 W) fun v hv=>⟨.val (.int .i64 (Lib.indexByte (nmL x.op) (73:Int).toNat.toUInt8)),by rw[hv]; simp only[Is],?_⟩
   (refine Y_go 600 ?_; dsimp only[go_sem,Int.reduceToNat,Nat.reduceBEq])
   refine⟨fun hlt=>?_,fun hlt=>?_⟩
   ·have hn:hasL x.op 73=false:=by
     have:Lib.indexByte (nmL x.op) (73:Int).toNat.toUInt8 < 0:=of_decide_eq_true hlt
     exact decide_eq_false (by omega)
    refine zj00 (vs:=[.pointer (some ⟨g,0,none⟩),.int .u8 73]) rfl (fun W hW=>zj1p g 73 W) fun v hv=>⟨.ptr 0 4,by rw[hv]; simp only[Is]; exact⟨g,rfl,rfl⟩,?_⟩
    (refine Y_go 600 ?_; dsimp only[go_sem,Nat.reduceBEq,reduceAdd])
    refine⟨fun hne=>ret _ _ ?_ rfl,fun hne=>⟨_,.add64 (by omega) (by omega),zj02 fun a W rep=>hI 4 ⟨by omega,fun _=>k1 (by omega),fun _=>k2 (by omega),fun _=>k3 (by omega),fun _=>?_⟩ (by omega) a W (rep.lq)⟩⟩
    ·have h0:x.imm ≠ 0:=by simpa using hne
     have:ok1 x 73=false:=by rw[ok1,hn,Bool.false_or]; exact beq_eq_false_iff_ne.2 h0
     rw[plainB,this]; simp
    ·have h0:x.imm=0:=by simpa using hne
     rw[ok1,hn,Bool.false_or]; exact beq_iff_eq.2 h0
   ·have hn:hasL x.op 73=true:=by
     have:¬ Lib.indexByte (nmL x.op) (73:Int).toNat.toUInt8 < 0:=of_decide_eq_false hlt
     exact decide_eq_true (by omega)
    refine⟨_,.add64 (by omega) (by omega),zj02 fun a W rep=>hI 4 ⟨by omega,fun _=>k1 (by omega),fun _=>k2 (by omega),fun _=>k3 (by omega),fun _=>?_⟩ (by omega) a W (rep.lq)⟩
    rw[ok1,hn]; rfl
  ·refine⟨fun h=>absurd h (by decide),fun _=>zj01 (vs:=[_]) r167 rfl rfl fun W hW=>hR _ _ ⟨?_,hW.fresh'⟩⟩
   rw[plainB,hl,k1 (by omega),k2 (by omega),k3 (by omega),k4 (by omega)]; rfl
end Go.Proofs.YtgghmmjoplddbaaGreatDoor
