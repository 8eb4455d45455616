/- The walk: an instruction's line (isa.Text). -/
import Derived.Test.YtaiajnehnjnadaaDoorLAIlLaw1
import Derived.Test.YtaiajnehnjnadaaDoorLAsShelf
import Derived.Lib.ItoaLen
import Derived.Deep.Fields
import Derived.Deep.Slices
import Derived.Laws.Strings
set_option linter.unusedSimpArgs false
set_option linter.unusedVariables false
set_option linter.unnecessarySimpa false
namespace Go.Proofs.YtaiajnehnjnadaaDoor
open Go Go.Sx Go.Isa
open Nat (reduceAdd reduceLT)
set_option maxRecDepth 100000
theorem fld64 {x:In} (h:in64 x) (c:Int):is64 (fld x c):=by
 obtain⟨h0,h1,h2,h3,h4⟩:=h
 unfold fld; repeat' split
 all_goals assumption
theorem argL_len {x:In} (h:in64 x):∀ nm:List UInt8,(argL x nm).length≤22*nm.length
 | []=>by simp[argL]
 | c :: nm=>by
  have ih:=argL_len h nm
  have h1:=fld64 h c.toNat
  have:=Lib.itoa_length_le _ h1.1 h1.2
  simp only[argL,List.flatMap_cons,List.length_append,List.length_cons] at ih ⊢
  omega
theorem argL_succ (x:In) (nm:List UInt8) {i:Nat} (h:i < nm.length):argL x (nm.take (i+1))=argL x (nm.take i)++32 :: Lib.itoa (fld x nm[i].toNat):=by
 unfold argL
 rw[List.take_succ_eq_append_getElem h,List.flatMap_append]; simp
theorem sh_word {op:Int} (h:isOp op=true):shL[0+op.toNat*2]? = some (.string ⟨⟨wdL op⟩⟩):=by
 rcases zj12 h with h | h | h | h | h | h | h | h | h | h | h | h | h | h | h | h | h | h <;> subst h <;> rfl
theorem wd_len (op:Int):(wdL op).length≤5:=by
 by_cases h:isOp op=true
 ·rcases zj12 h with h | h | h | h | h | h | h | h | h | h | h | h | h | h | h | h | h | h <;> subst h <;> decide
 ·unfold wdL
  rw[List.getD_eq_getElem?_getD]
  have:∀ l ∈ wds,l.length≤5:=by decide
  cases e:wds[op.toNat]? with
  | none=>simp
  | some v=>exact this v (List.mem_of_getElem? e)
theorem nm_ok (op:Int):(nmL op).length≤3∧∀ c ∈ nmL op,c=65∨c=66∨c=67∨c=73∨c=79:=by
 unfold nmL
 repeat' split
 all_goals decide
theorem zj02 (a b:List UInt8):(⟨⟨a⟩⟩:ByteArray)++⟨⟨b⟩⟩=⟨⟨a++b⟩⟩:=by
 apply ByteArray.ext
 simp[ByteArray.data_append]
theorem zj00 (a:List UInt8):(⟨⟨a⟩⟩:ByteArray).size=a.length:=by
 simp[ByteArray.size]
theorem text16 (x:In) (w:World) (hx:in64 x) (hG:ShAt w) (hT:TabAt w):CallsV Tryd.prog 17 [In.val x] w fun v w'=>v=.string ⟨⟨textL x⟩⟩∧Fresh w w':=by
 refine zj09 (keep:=K17) (nt:=36) (svs:=[.agg (In.sv x)]) Tryd.func17 x17 n17 (by simp) (by simp only[IsL]; exact⟨_,_,In.is _ x,rfl,rfl⟩) fun R hR=>?_
 (refine Y_go 600 ?_; dsimp only[go_sem,In.sv,reduceAdd,Nat.reduceBEq])
 intro g
 have key:∀ (nm pre:List UInt8) (g1 c:Nat) (F0:List (Nat × SV)),(∀ c ∈ nm,c=65∨c=66∨c=67∨c=73∨c=79)→nm.length≤5→pre.length≤5→textL x=pre++argL x nm →
   (∀ a W,Rep ⟨w,w.heap.size,[],36,[]⟩ { F:=F0,H:=[.cells g 43 [.val (.int .i64 x.op),.val (.int .i64 x.a),.val (.int .i64 x.b),.val (.int .i64 x.c),.val (.int .i64 x.imm)],.frz g1 5 (bytesV ⟨⟨nm⟩⟩)] } a W→Rep ⟨w,w.heap.size,[],36,[]⟩ { F:=[(1,.ptr 0 0),(3,.val (.string ⟨⟨pre⟩⟩)),(20,.slc 1 0 (⟨⟨nm⟩⟩:ByteArray).size c),(21,.val (.int .i64 (⟨⟨nm⟩⟩:ByteArray).size)),(22,.val (.int .i64 0))],H:=[.cells g 43 [.val (.int .i64 x.op),.val (.int .i64 x.a),.val (.int .i64 x.b),.val (.int .i64 x.c),.val (.int .i64 x.imm)],.frz g1 5 (bytesV ⟨⟨nm⟩⟩)] } a W) →
   G (cxOf Tryd.prog Tryd.f17 K17 T17 R) ⟨w,w.heap.size,[],36,[]⟩ [.code (.loop (.ref 4)),.blk 0,.code (.ref 5)] { F:=F0,H:=[.cells g 43 [.val (.int .i64 x.op),.val (.int .i64 x.a),.val (.int .i64 x.b),.val (.int .i64 x.c),.val (.int .i64 x.imm)],.frz g1 5 (bytesV ⟨⟨nm⟩⟩)] }:=by
  intro nm pre g1 c F0 hnm hl5 hp5 htx hle
  refine zj1b (α:=Nat) (fun i=>i≤nm.length) (fun _=>⟨w,w.heap.size,[],36,[]⟩)
   (fun i=>{ F:=[(1,.ptr 0 0),(3,.val (.string ⟨⟨pre++argL x (nm.take i)⟩⟩)),(20,.slc 1 0 (⟨⟨nm⟩⟩:ByteArray).size c),(21,.val (.int .i64 (⟨⟨nm⟩⟩:ByteArray).size)),(22,.val (.int .i64 i))],H:=[.cells g 43 [.val (.int .i64 x.op),.val (.int .i64 x.a),.val (.int .i64 x.b),.val (.int .i64 x.c),.val (.int .i64 x.imm)],.frz g1 5 (bytesV ⟨⟨nm⟩⟩)] }) (fun i=>nm.length - i) (fun _=>rfl) ?start ?round
  case start =>
   intro a W rep
   refine⟨0,Nat.zero_le _,?_⟩
   have:=hle a W rep
   simp only[List.take_zero,argL,List.flatMap_nil,List.append_nil]
   exact this
  case round =>
   intro i hi I hI
   (refine Y_go 600 ?_; dsimp only[go_sem,Nat.reduceBEq])
   have hsz:(⟨⟨nm⟩⟩:ByteArray).size=nm.length:=zj00 nm
   have hsz2:(⟨nm⟩:Array UInt8).size=nm.length:=rfl
   refine⟨fun h=>?_,fun h=>?_⟩
   ·have hlt:i < nm.length:=by have:=of_decide_eq_true h; omega
    have hlen:=argL_len hx (nm.take i)
    have hti:(nm.take i).length=i:=by rw[List.length_take]; omega
    have hget:∀ n:Nat,nm[i].toNat=n→(bytesV ⟨⟨nm⟩⟩)[0+(i:Int).toNat*1]? = some (.int .u8 (n:Int)):=by
     intro n hn
     have e:(bytesV ⟨⟨nm⟩⟩)=nm.map fun c=>Value.int .u8 (c.toNat:Int):=rfl
     rw[e,List.getElem?_map,show 0+(i:Int).toNat*1=i by omega,List.getElem?_eq_getElem hlt,Option.map_some,hn]
    have hs:=argL_succ x nm hlt
    rcases hnm nm[i] (List.getElem_mem hlt) with hc | hc | hc | hc | hc
    ·have f64:=fld64 hx 65
     have hf:fld x 65=x.a:=rfl
     rw[hf] at f64
     have hil:=Lib.itoa_length_le x.a f64.1 f64.2
     have hs':argL x (nm.take (i+1))=argL x (nm.take i)++32 :: Lib.itoa x.a:=by rw[hs,hc]; rfl
     refine⟨⟨by omega,by omega⟩,65,hget 65 (by rw[hc]; rfl),?_⟩
     refine zj01 (vs:=[.pointer (some ⟨g,0,none⟩),.int .u8 65]) rfl (fun W hW=>zj1k g 65 W) fun v hv=>⟨.ptr 0 1,by rw[hv]; simp only[Is]; exact⟨g,rfl,rfl⟩,?_⟩
     (refine Y_go 600 ?_; dsimp only[go_sem,Nat.reduceBEq,reduceAdd])
     refine zj01 (vs:=[.int .i64 x.a]) rfl (fun W hW=>itoa41 x.a W f64.1 f64.2 (hT.keep hW.fresh')) fun v hv=>⟨.val (.string ⟨⟨Lib.itoa x.a⟩⟩),by rw[hv]; simp[Is],?_⟩
     (refine Y_go 600 ?_; dsimp only[go_sem,Nat.reduceBEq])
     refine⟨by first | (rw[zj00,zj00]; simp; omega) | (simp[ByteArray.size]; omega),by first | (rw[zj02,zj00,zj00]; simp; omega) | (simp[ByteArray.size]; omega),_,.add64 (by omega) (by omega),zj04 fun a W rep=>hI (i+1) (by show i+1≤nm.length; omega) (by omega) a W ?_⟩
     rw[zj02,zj02] at rep
     simp only[hs']
     rw[← List.append_assoc]
     exact rep.lq
    ·have f64:=fld64 hx 66
     have hf:fld x 66=x.b:=rfl
     rw[hf] at f64
     have hil:=Lib.itoa_length_le x.b f64.1 f64.2
     have hs':argL x (nm.take (i+1))=argL x (nm.take i)++32 :: Lib.itoa x.b:=by rw[hs,hc]; rfl
     refine⟨⟨by omega,by omega⟩,66,hget 66 (by rw[hc]; rfl),?_⟩
     refine zj01 (vs:=[.pointer (some ⟨g,0,none⟩),.int .u8 66]) rfl (fun W hW=>zj1k g 66 W) fun v hv=>⟨.ptr 0 2,by rw[hv]; simp only[Is]; exact⟨g,rfl,rfl⟩,?_⟩
     (refine Y_go 600 ?_; dsimp only[go_sem,Nat.reduceBEq,reduceAdd])
     refine zj01 (vs:=[.int .i64 x.b]) rfl (fun W hW=>itoa41 x.b W f64.1 f64.2 (hT.keep hW.fresh')) fun v hv=>⟨.val (.string ⟨⟨Lib.itoa x.b⟩⟩),by rw[hv]; simp[Is],?_⟩
     (refine Y_go 600 ?_; dsimp only[go_sem,Nat.reduceBEq])
     refine⟨by first | (rw[zj00,zj00]; simp; omega) | (simp[ByteArray.size]; omega),by first | (rw[zj02,zj00,zj00]; simp; omega) | (simp[ByteArray.size]; omega),_,.add64 (by omega) (by omega),zj04 fun a W rep=>hI (i+1) (by show i+1≤nm.length; omega) (by omega) a W ?_⟩
     rw[zj02,zj02] at rep
     simp only[hs']
     rw[← List.append_assoc]
     exact rep.lq
    ·have f64:=fld64 hx 67
     have hf:fld x 67=x.c:=rfl
     rw[hf] at f64
     have hil:=Lib.itoa_length_le x.c f64.1 f64.2
     have hs':argL x (nm.take (i+1))=argL x (nm.take i)++32 :: Lib.itoa x.c:=by rw[hs,hc]; rfl
     refine⟨⟨by omega,by omega⟩,67,hget 67 (by rw[hc]; rfl),?_⟩
     refine zj01 (vs:=[.pointer (some ⟨g,0,none⟩),.int .u8 67]) rfl (fun W hW=>zj1k g 67 W) fun v hv=>⟨.ptr 0 3,by rw[hv]; simp only[Is]; exact⟨g,rfl,rfl⟩,?_⟩
     (refine Y_go 600 ?_; dsimp only[go_sem,Nat.reduceBEq,reduceAdd])
     refine zj01 (vs:=[.int .i64 x.c]) rfl (fun W hW=>itoa41 x.c W f64.1 f64.2 (hT.keep hW.fresh')) fun v hv=>⟨.val (.string ⟨⟨Lib.itoa x.c⟩⟩),by rw[hv]; simp[Is],?_⟩
     (refine Y_go 600 ?_; dsimp only[go_sem,Nat.reduceBEq])
     refine⟨by first | (rw[zj00,zj00]; simp; omega) | (simp[ByteArray.size]; omega),by first | (rw[zj02,zj00,zj00]; simp; omega) | (simp[ByteArray.size]; omega),_,.add64 (by omega) (by omega),zj04 fun a W rep=>hI (i+1) (by show i+1≤nm.length; omega) (by omega) a W ?_⟩
     rw[zj02,zj02] at rep
     simp only[hs']
     rw[← List.append_assoc]
     exact rep.lq
    ·have f64:=fld64 hx 73
     have hf:fld x 73=x.imm:=rfl
     rw[hf] at f64
     have hil:=Lib.itoa_length_le x.imm f64.1 f64.2
     have hs':argL x (nm.take (i+1))=argL x (nm.take i)++32 :: Lib.itoa x.imm:=by rw[hs,hc]; rfl
     refine⟨⟨by omega,by omega⟩,73,hget 73 (by rw[hc]; rfl),?_⟩
     refine zj01 (vs:=[.pointer (some ⟨g,0,none⟩),.int .u8 73]) rfl (fun W hW=>zj1k g 73 W) fun v hv=>⟨.ptr 0 4,by rw[hv]; simp only[Is]; exact⟨g,rfl,rfl⟩,?_⟩
     (refine Y_go 600 ?_; dsimp only[go_sem,Nat.reduceBEq,reduceAdd])
     refine zj01 (vs:=[.int .i64 x.imm]) rfl (fun W hW=>itoa41 x.imm W f64.1 f64.2 (hT.keep hW.fresh')) fun v hv=>⟨.val (.string ⟨⟨Lib.itoa x.imm⟩⟩),by rw[hv]; simp[Is],?_⟩
     (refine Y_go 600 ?_; dsimp only[go_sem,Nat.reduceBEq])
     refine⟨by first | (rw[zj00,zj00]; simp; omega) | (simp[ByteArray.size]; omega),by first | (rw[zj02,zj00,zj00]; simp; omega) | (simp[ByteArray.size]; omega),_,.add64 (by omega) (by omega),zj04 fun a W rep=>hI (i+1) (by show i+1≤nm.length; omega) (by omega) a W ?_⟩
     rw[zj02,zj02] at rep
     simp only[hs']
     rw[← List.append_assoc]
     exact rep.lq
    ·have f64:=fld64 hx 79
     have hf:fld x 79=x.op:=rfl
     rw[hf] at f64
     have hil:=Lib.itoa_length_le x.op f64.1 f64.2
     have hs':argL x (nm.take (i+1))=argL x (nm.take i)++32 :: Lib.itoa x.op:=by rw[hs,hc]; rfl
     refine⟨⟨by omega,by omega⟩,79,hget 79 (by rw[hc]; rfl),?_⟩
     refine zj01 (vs:=[.pointer (some ⟨g,0,none⟩),.int .u8 79]) rfl (fun W hW=>zj1k g 79 W) fun v hv=>⟨.ptr 0 0,by rw[hv]; simp only[Is]; exact⟨g,rfl,rfl⟩,?_⟩
     (refine Y_go 600 ?_; dsimp only[go_sem,Nat.reduceBEq,reduceAdd])
     refine zj01 (vs:=[.int .i64 x.op]) rfl (fun W hW=>itoa41 x.op W f64.1 f64.2 (hT.keep hW.fresh')) fun v hv=>⟨.val (.string ⟨⟨Lib.itoa x.op⟩⟩),by rw[hv]; simp[Is],?_⟩
     (refine Y_go 600 ?_; dsimp only[go_sem,Nat.reduceBEq])
     refine⟨by first | (rw[zj00,zj00]; simp; omega) | (simp[ByteArray.size]; omega),by first | (rw[zj02,zj00,zj00]; simp; omega) | (simp[ByteArray.size]; omega),_,.add64 (by omega) (by omega),zj04 fun a W rep=>hI (i+1) (by show i+1≤nm.length; omega) (by omega) a W ?_⟩
     rw[zj02,zj02] at rep
     simp only[hs']
     rw[← List.append_assoc]
     exact rep.lq
   ·have hil:i=nm.length:=by have:=of_decide_eq_false h; have:=hi; omega
    subst hil
    exact zj03 (vs:=[_]) r17 rfl rfl fun W hW=>hR _ _ ⟨by rw[List.take_length,htx]; rfl,hW.fresh'⟩
 refine zj01 (vs:=[In.val x]) rfl (fun W hW=>plain40 x W (hG.keep hW.fresh')) fun v hv=>⟨.val (.bool (plainB x)),by rw[hv]; simp[Is],?_⟩
 (refine Y_go 600 ?_; dsimp only[go_sem,Nat.reduceBEq,reduceAdd])
 refine⟨fun h=>?_,fun h g1 c=>?_⟩
 ·have hl:legalB x=true:=by rw[plainB,Bool.and_eq_true] at h; exact h.1
  have hop:isOp x.op=true:=by
   simp only[legalB,Bool.and_eq_true] at hl
   exact hl.1.1.1
  have hr:1≤x.op∧x.op≤18:=by rw[isOp,Bool.and_eq_true] at hop; exact⟨of_decide_eq_true hop.1,of_decide_eq_true hop.2⟩
  refine⟨⟨by omega,by omega,rfl⟩,rfl,⟨⟨wdL x.op⟩⟩,hG.cell (sh_word hop),⟨by omega,by omega,rfl⟩,rfl,⟨⟨nmL x.op⟩⟩,hG.cell (sh_get hop),fun g1 c=>?_⟩
  exact key (nmL x.op) (wdL x.op) g1 c _ (nm_ok _).2 (by have:=(nm_ok x.op).1; omega) (wd_len _) (by rw[textL,if_pos h]) (fun a W rep=>rep.lq)
 ·exact key rawN rawW g1 c _ (by decide) (by decide) (by decide) (by rw[textL,if_neg (by rw[h]; decide)]) (fun a W rep=>rep.le (by (simp only[go_sem,lk,Nat.reduceBEq,reduceLT,reduceAdd] <;> try simp); exact⟨rfl,rfl,rfl⟩) (by (simp only[go_sem,lk,Nat.reduceBEq,reduceLT,reduceAdd] <;> try simp)))
theorem RowAt.tail {w:World} {A:Option Addr} {c:Nat} {v:Value} {xs:List Value} (h:RowAt w A (v :: xs)) (hc:xs.length+1≤c):RowAt w (subA A c 1 1) xs:=by
 intro j u hj
 have hjl:=(List.getElem?_eq_some_iff.1 hj).1
 obtain⟨a,rfl,hb,hcell⟩:=h (j+1) u (by simpa using hj)
 unfold subA
 rw[if_neg (by omega)]
 refine⟨a.add 1,rfl,by rw[zj15]; exact hb,?_⟩
 rw[Go.Deep.add_add,show 1+j=j+1 by omega]; exact hcell
end Go.Proofs.YtaiajnehnjnadaaDoor
