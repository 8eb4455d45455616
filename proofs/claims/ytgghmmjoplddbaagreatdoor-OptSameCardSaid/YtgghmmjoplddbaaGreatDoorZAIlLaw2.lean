/- The walk: an instruction's line (isa.Text). -/
import Derived.Test.YtgghmmjoplddbaaGreatDoorZAIlLaw1
import Derived.Test.YtgghmmjoplddbaaGreatDoorZAsShelf
import Derived.Lib.ItoaLen
import Derived.Deep.Fields
import Derived.Deep.Slices
import Derived.Laws.Strings
set_option linter.unusedSimpArgs false
set_option linter.unusedVariables false
set_option linter.unnecessarySimpa false
namespace Go.Proofs.YtgghmmjoplddbaaGreatDoor
open Go Go.Sx Go.Isa
open Nat (reduceAdd reduceLT)
set_option maxRecDepth 100000
theorem fld64 {x:In} (h:in64 x) (c:Int):is64 (fld x c):=by
 obtain⟨h0,h1,h2,h3,h4⟩:=h
 unfold fld; repeat' split
 all_goals assumption
theorem argL_len {x:In} (h:in64 x):∀ nm:List UInt8,(argL x nm).length≤22*nm.length
 | []=>by simp[argL]
 | c :: nm=>by
  have ih:=argL_len h nm
  have h1:=fld64 h c.toNat
  have:=Lib.itoa_length_le _ h1.1 h1.2
  simp only[argL,List.flatMap_cons,List.length_append,List.length_cons] at ih ⊢
  omega
theorem argL_succ (x:In) (nm:List UInt8) {i:Nat} (h:i < nm.length):argL x (nm.take (i+1))=argL x (nm.take i)++32 :: Lib.itoa (fld x nm[i].toNat):=by
 unfold argL
 rw[List.take_succ_eq_append_getElem h,List.flatMap_append]; simp
theorem sh_word {op:Int} (h:isOp op=true):shL[0+op.toNat*2]? = some (.string ⟨⟨wdL op⟩⟩):=by
 rcases zj0g h with h | h | h | h | h | h | h | h | h | h | h | h | h | h | h | h | h | h <;> subst h <;> rfl
theorem wd_len (op:Int):(wdL op).length≤5:=by
 by_cases h:isOp op=true
 ·rcases zj0g h with h | h | h | h | h | h | h | h | h | h | h | h | h | h | h | h | h | h <;> subst h <;> decide
 ·unfold wdL
  rw[List.getD_eq_getElem?_getD]
  have:∀ l ∈ wds,l.length≤5:=by decide
  cases e:wds[op.toNat]? with
  | none=>simp
  | some v=>exact this v (List.mem_of_getElem? e)
theorem nm_ok (op:Int):(nmL op).length≤3∧∀ c ∈ nmL op,c=65∨c=66∨c=67∨c=73∨c=79:=by
 unfold nmL
 repeat' split
 all_goals decide
theorem zj1g (a b:List UInt8):(⟨⟨a⟩⟩:ByteArray)++⟨⟨b⟩⟩=⟨⟨a++b⟩⟩:=by
 apply ByteArray.ext
 simp[ByteArray.data_append]
theorem zj09 (a:List UInt8):(⟨⟨a⟩⟩:ByteArray).size=a.length:=by
 simp[ByteArray.size]
theorem text16 (x:In) (w:World) (hx:in64 x) (hG:ShAt w) (hT:TabAt w):CallsV Tryz.prog 139 [In.val x] w fun v w'=>v=.string ⟨⟨textL x⟩⟩∧Fresh w w':=by
 refine zj03 (keep:=K139) (nt:=36) (svs:=[.agg (In.sv x)]) Tryz.func139 x139 n139 (by simp) (by simp only[IsL]; exact⟨_,_,In.is _ x,rfl,rfl⟩) fun R hR=>?_
 (refine Y_go 600 ?_; dsimp only[go_sem,In.sv,reduceAdd,Nat.reduceBEq])
 intro g
 have key:∀ (nm pre:List UInt8) (g1 c:Nat) (F0:List (Nat × SV)),(∀ c ∈ nm,c=65∨c=66∨c=67∨c=73∨c=79)→nm.length≤5→pre.length≤5→textL x=pre++argL x nm →
   (∀ a W,Rep ⟨w,w.heap.size,[],36,[]⟩ { F:=F0,H:=[.cells g 47 [.val (.int .i64 x.op),.val (.int .i64 x.a),.val (.int .i64 x.b),.val (.int .i64 x.c),.val (.int .i64 x.imm)],.frz g1 5 (bytesV ⟨⟨nm⟩⟩)] } a W→Rep ⟨w,w.heap.size,[],36,[]⟩ { F:=[(1,.ptr 0 0),(3,.val (.string ⟨⟨pre⟩⟩)),(20,.slc 1 0 (⟨⟨nm⟩⟩:ByteArray).size c),(21,.val (.int .i64 (⟨⟨nm⟩⟩:ByteArray).size)),(22,.val (.int .i64 0))],H:=[.cells g 47 [.val (.int .i64 x.op),.val (.int .i64 x.a),.val (.int .i64 x.b),.val (.int .i64 x.c),.val (.int .i64 x.imm)],.frz g1 5 (bytesV ⟨⟨nm⟩⟩)] } a W) →
   G (cxOf Tryz.prog Tryz.f139 K139 T139 R) ⟨w,w.heap.size,[],36,[]⟩ [.code (.loop (.ref 4)),.blk 0,.code (.ref 5)] { F:=F0,H:=[.cells g 47 [.val (.int .i64 x.op),.val (.int .i64 x.a),.val (.int .i64 x.b),.val (.int .i64 x.c),.val (.int .i64 x.imm)],.frz g1 5 (bytesV ⟨⟨nm⟩⟩)] }:=by
  intro nm pre g1 c F0 hnm hl5 hp5 htx hle
  refine zj08 (α:=Nat) (fun i=>i≤nm.length) (fun _=>⟨w,w.heap.size,[],36,[]⟩)
   (fun i=>{ F:=[(1,.ptr 0 0),(3,.val (.string ⟨⟨pre++argL x (nm.take i)⟩⟩)),(20,.slc 1 0 (⟨⟨nm⟩⟩:ByteArray).size c),(21,.val (.int .i64 (⟨⟨nm⟩⟩:ByteArray).size)),(22,.val (.int .i64 i))],H:=[.cells g 47 [.val (.int .i64 x.op),.val (.int .i64 x.a),.val (.int .i64 x.b),.val (.int .i64 x.c),.val (.int .i64 x.imm)],.frz g1 5 (bytesV ⟨⟨nm⟩⟩)] }) (fun i=>nm.length - i) (fun _=>rfl) ?start ?round
  case start =>
   intro a W rep
   refine⟨0,Nat.zero_le _,?_⟩
   have:=hle a W rep
   simp only[List.take_zero,argL,List.flatMap_nil,List.append_nil]
   exact this
  case round =>
   intro i hi I hI
   (refine Y_go 600 ?_; dsimp only[go_sem,Nat.reduceBEq])
   have hsz:(⟨⟨nm⟩⟩:ByteArray).size=nm.length:=zj09 nm
   have hsz2:(⟨nm⟩:Array UInt8).size=nm.length:=rfl
   refine⟨fun h=>?_,fun h=>?_⟩
   ·have hlt:i < nm.length:=by have:=of_decide_eq_true h; omega
    have hlen:=argL_len hx (nm.take i)
    have hti:(nm.take i).length=i:=by rw[List.length_take]; omega
    have hget:∀ n:Nat,nm[i].toNat=n→(bytesV ⟨⟨nm⟩⟩)[0+(i:Int).toNat*1]? = some (.int .u8 (n:Int)):=by
     intro n hn
     have e:(bytesV ⟨⟨nm⟩⟩)=nm.map fun c=>Value.int .u8 (c.toNat:Int):=rfl
     rw[e,List.getElem?_map,show 0+(i:Int).toNat*1=i by omega,List.getElem?_eq_getElem hlt,Option.map_some,hn]
    have hs:=argL_succ x nm hlt
    rcases hnm nm[i] (List.getElem_mem hlt) with hc | hc | hc | hc | hc
    ·have f64:=fld64 hx 65
     have hf:fld x 65=x.a:=rfl
     rw[hf] at f64
     have hil:=Lib.itoa_length_le x.a f64.1 f64.2
     have hs':argL x (nm.take (i+1))=argL x (nm.take i)++32 :: Lib.itoa x.a:=by rw[hs,hc]; rfl
     refine⟨⟨by omega,by omega⟩,65,hget 65 (by rw[hc]; rfl),?_⟩
     refine zj00 (vs:=[.pointer (some ⟨g,0,none⟩),.int .u8 65]) rfl (fun W hW=>zj1p g 65 W) fun v hv=>⟨.ptr 0 1,by rw[hv]; simp only[Is]; exact⟨g,rfl,rfl⟩,?_⟩
     (refine Y_go 600 ?_; dsimp only[go_sem,Nat.reduceBEq,reduceAdd])
     refine zj00 (vs:=[.int .i64 x.a]) rfl (fun W hW=>itoa41 x.a W f64.1 f64.2 (hT.keep hW.fresh')) fun v hv=>⟨.val (.string ⟨⟨Lib.itoa x.a⟩⟩),by rw[hv]; simp[Is],?_⟩
     (refine Y_go 600 ?_; dsimp only[go_sem,Nat.reduceBEq])
     refine⟨by first | (rw[zj09,zj09]; simp; omega) | (simp[ByteArray.size]; omega),by first | (rw[zj1g,zj09,zj09]; simp; omega) | (simp[ByteArray.size]; omega),_,.add64 (by omega) (by omega),zj02 fun a W rep=>hI (i+1) (by show i+1≤nm.length; omega) (by omega) a W ?_⟩
     rw[zj1g,zj1g] at rep
     simp only[hs']
     rw[← List.append_assoc]
     exact rep.lq
    ·have f64:=fld64 hx 66
     have hf:fld x 66=x.b:=rfl
     rw[hf] at f64
     have hil:=Lib.itoa_length_le x.b f64.1 f64.2
     have hs':argL x (nm.take (i+1))=argL x (nm.take i)++32 :: Lib.itoa x.b:=by rw[hs,hc]; rfl
     refine⟨⟨by omega,by omega⟩,66,hget 66 (by rw[hc]; rfl),?_⟩
     refine zj00 (vs:=[.pointer (some ⟨g,0,none⟩),.int .u8 66]) rfl (fun W hW=>zj1p g 66 W) fun v hv=>⟨.ptr 0 2,by rw[hv]; simp only[Is]; exact⟨g,rfl,rfl⟩,?_⟩
     (refine Y_go 600 ?_; dsimp only[go_sem,Nat.reduceBEq,reduceAdd])
     refine zj00 (vs:=[.int .i64 x.b]) rfl (fun W hW=>itoa41 x.b W f64.1 f64.2 (hT.keep hW.fresh')) fun v hv=>⟨.val (.string ⟨⟨Lib.itoa x.b⟩⟩),by rw[hv]; simp[Is],?_⟩
     (refine Y_go 600 ?_; dsimp only[go_sem,Nat.reduceBEq])
     refine⟨by first | (rw[zj09,zj09]; simp; omega) | (simp[ByteArray.size]; omega),by first | (rw[zj1g,zj09,zj09]; simp; omega) | (simp[ByteArray.size]; omega),_,.add64 (by omega) (by omega),zj02 fun a W rep=>hI (i+1) (by show i+1≤nm.length; omega) (by omega) a W ?_⟩
     rw[zj1g,zj1g] at rep
     simp only[hs']
     rw[← List.append_assoc]
     exact rep.lq
    ·have f64:=fld64 hx 67
     have hf:fld x 67=x.c:=rfl
     rw[hf] at f64
     have hil:=Lib.itoa_length_le x.c f64.1 f64.2
     have hs':argL x (nm.take (i+1))=argL x (nm.take i)++32 :: Lib.itoa x.c:=by rw[hs,hc]; rfl
     refine⟨⟨by omega,by omega⟩,67,hget 67 (by rw[hc]; rfl),?_⟩
     refine zj00 (vs:=[.pointer (some ⟨g,0,none⟩),.int .u8 67]) rfl (fun W hW=>zj1p g 67 W) fun v hv=>⟨.ptr 0 3,by rw[hv]; simp only[Is]; exact⟨g,rfl,rfl⟩,?_⟩
     (refine Y_go 600 ?_; dsimp only[go_sem,Nat.reduceBEq,reduceAdd])
     refine zj00 (vs:=[.int .i64 x.c]) rfl (fun W hW=>itoa41 x.c W f64.1 f64.2 (hT.keep hW.fresh')) fun v hv=>⟨.val (.string ⟨⟨Lib.itoa x.c⟩⟩),by rw[hv]; simp[Is],?_⟩
     (refine Y_go 600 ?_; dsimp only[go_sem,Nat.reduceBEq])
     refine⟨by first | (rw[zj09,zj09]; simp; omega) | (simp[ByteArray.size]; omega),by first | (rw[zj1g,zj09,zj09]; simp; omega) | (simp[ByteArray.size]; omega),_,.add64 (by omega) (by omega),zj02 fun a W rep=>hI (i+1) (by show i+1≤nm.length; omega) (by omega) a W ?_⟩
     rw[zj1g,zj1g] at rep
     simp only[hs']
     rw[← List.append_assoc]
     exact rep.lq
    ·have f64:=fld64 hx 73
     have hf:fld x 73=x.imm:=rfl
     rw[hf] at f64
     have hil:=Lib.itoa_length_le x.imm f64.1 f64.2
     have hs':argL x (nm.take (i+1))=argL x (nm.take i)++32 :: Lib.itoa x.imm:=by rw[hs,hc]; rfl
     refine⟨⟨by omega,by omega⟩,73,hget 73 (by rw[hc]; rfl),?_⟩
     refine zj00 (vs:=[.pointer (some ⟨g,0,none⟩),.int .u8 73]) rfl (fun W hW=>zj1p g 73 W) fun v hv=>⟨.ptr 0 4,by rw[hv]; simp only[Is]; exact⟨g,rfl,rfl⟩,?_⟩
     (refine Y_go 600 ?_; dsimp only[go_sem,Nat.reduceBEq,reduceAdd])
     refine zj00 (vs:=[.int .i64 x.imm]) rfl (fun W hW=>itoa41 x.imm W f64.1 f64.2 (hT.keep hW.fresh')) fun v hv=>⟨.val (.string ⟨⟨Lib.itoa x.imm⟩⟩),by rw[hv]; simp[Is],?_⟩
     (refine Y_go 600 ?_; dsimp only[go_sem,Nat.reduceBEq])
     refine⟨by first | (rw[zj09,zj09]; simp; omega) | (simp[ByteArray.size]; omega),by first | (rw[zj1g,zj09,zj09]; simp; omega) | (simp[ByteArray.size]; omega),_,.add64 (by omega) (by omega),zj02 fun a W rep=>hI (i+1) (by show i+1≤nm.length; omega) (by omega) a W ?_⟩
     rw[zj1g,zj1g] at rep
     simp only[hs']
     rw[← List.append_assoc]
     exact rep.lq
    ·have f64:=fld64 hx 79
     have hf:fld x 79=x.op:=rfl
     rw[hf] at f64
     have hil:=Lib.itoa_length_le x.op f64.1 f64.2
     have hs':argL x (nm.take (i+1))=argL x (nm.take i)++32 :: Lib.itoa x.op:=by rw[hs,hc]; rfl
     refine⟨⟨by omega,by omega⟩,79,hget 79 (by rw[hc]; rfl),?_⟩
     refine zj00 (vs:=[.pointer (some ⟨g,0,none⟩),.int .u8 79]) rfl (fun W hW=>zj1p g 79 W) fun v hv=>⟨.ptr 0 0,by rw[hv]; simp only[Is]; exact⟨g,rfl,rfl⟩,?_⟩
     (refine Y_go 600 ?_; dsimp only[go_sem,Nat.reduceBEq,reduceAdd])
     refine zj00 (vs:=[.int .i64 x.op]) rfl (fun W hW=>itoa41 x.op W f64.1 f64.2 (hT.keep hW.fresh')) fun v hv=>⟨.val (.string ⟨⟨Lib.itoa x.op⟩⟩),by rw[hv]; simp[Is],?_⟩
     (refine Y_go 600 ?_; dsimp only[go_sem,Nat.reduceBEq])
     refine⟨by first | (rw[zj09,zj09]; simp; omega) | (simp[ByteArray.size]; omega),by first | (rw[zj1g,zj09,zj09]; simp; omega) | (simp[ByteArray.size]; omega),_,.add64 (by omega) (by omega),zj02 fun a W rep=>hI (i+1) (by show i+1≤nm.length; omega) (by omega) a W ?_⟩
     rw[zj1g,zj1g] at rep
     simp only[hs']
     rw[← List.append_assoc]
     exact rep.lq
   ·have hil:i=nm.length:=by have:=of_decide_eq_false h; have:=hi; omega
    subst hil
    exact zj01 (vs:=[_]) r139 rfl rfl fun W hW=>hR _ _ ⟨by rw[List.take_length,htx]; rfl,hW.fresh'⟩
 refine zj00 (vs:=[In.val x]) rfl (fun W hW=>plain40 x W (hG.keep hW.fresh')) fun v hv=>⟨.val (.bool (plainB x)),by rw[hv]; simp[Is],?_⟩
 (refine Y_go 600 ?_; dsimp only[go_sem,Nat.reduceBEq,reduceAdd])
 refine⟨fun h=>?_,fun h g1 c=>?_⟩
 ·have hl:legalB x=true:=by rw[plainB,Bool.and_eq_true] at h; exact h.1
  have hop:isOp x.op=true:=by
   simp only[legalB,Bool.and_eq_true] at hl
   exact hl.1.1.1
  have hr:1≤x.op∧x.op≤18:=by rw[isOp,Bool.and_eq_true] at hop; exact⟨of_decide_eq_true hop.1,of_decide_eq_true hop.2⟩
  refine⟨⟨by omega,by omega,rfl⟩,rfl,⟨⟨wdL x.op⟩⟩,hG.cell (sh_word hop),⟨by omega,by omega,rfl⟩,rfl,⟨⟨nmL x.op⟩⟩,hG.cell (sh_get hop),fun g1 c=>?_⟩
  exact key (nmL x.op) (wdL x.op) g1 c _ (nm_ok _).2 (by have:=(nm_ok x.op).1; omega) (wd_len _) (by rw[textL,if_pos h]) (fun a W rep=>rep.lq)
 ·exact key rawN rawW g1 c _ (by decide) (by decide) (by decide) (by rw[textL,if_neg (by rw[h]; decide)]) (fun a W rep=>rep.le (by (simp only[go_sem,lk,Nat.reduceBEq,reduceLT,reduceAdd] <;> try simp); exact⟨rfl,rfl,rfl⟩) (by (simp only[go_sem,lk,Nat.reduceBEq,reduceLT,reduceAdd] <;> try simp)))
theorem RowAt.tail {w:World} {A:Option Addr} {c:Nat} {v:Value} {xs:List Value} (h:RowAt w A (v :: xs)) (hc:xs.length+1≤c):RowAt w (subA A c 1 1) xs:=by
 intro j u hj
 have hjl:=(List.getElem?_eq_some_iff.1 hj).1
 obtain⟨a,rfl,hb,hcell⟩:=h (j+1) u (by simpa using hj)
 unfold subA
 rw[if_neg (by omega)]
 refine⟨a.add 1,rfl,by rw[zj1h]; exact hb,?_⟩
 rw[Go.Deep.add_add,show 1+j=j+1 by omega]; exact hcell
theorem strEq (a b:List UInt8):strB .eql ⟨⟨a⟩⟩ ⟨⟨b⟩⟩=decide (a=b):=by
 unfold strB
 rw[ByteArray.toList_eq,ByteArray.toList_eq]
 by_cases h:a=b
 ·subst h; simp
 ·rw[decide_eq_false h]; exact beq_eq_false_iff_ne.2 h
theorem zj6r {x:In} (h:in64 x) {c n:Int} (hn:is64 n):in64 (setF x c n):=by
 obtain⟨h0,h1,h2,h3,h4⟩:=h
 unfold setF
 repeat' split
 all_goals (refine⟨?_,?_,?_,?_,?_⟩ <;> assumption)
theorem try35 (x:In) (nm:List UInt8) (A B WA:Option Addr) (c:Nat) (ws:List ByteArray) (s:List UInt8) (w:World) (hx:in64 x) (hnm:∀ c ∈ nm,Ltr c) (hl:nm.length≤5) (hws:∀ v ∈ ws,v.size≤1000000) (hwc:ws.length≤c) (hwl:ws.length≤1000000) (hs:s.length≤1000000)
  (hA:RowAt w A [.slice WA ws.length c]) (hB:RowAt w B [.string ⟨⟨s⟩⟩]) (hW:RowAt w WA (ws.map Value.string)) (hG:ShAt w) (hT:TabAt w) (hLb:LibAt w) :
  CallsV Tryz.prog 140 [In.val x,.string ⟨⟨nm⟩⟩,.pointer A,.pointer B] w fun v w'=>(∃ y b,v=.tuple #[In.val y,.bool b]∧tryL x nm ws s=(if b then some y else none))∧Fresh w w':=by
 have hAs:A.isSome=true:=hA.isSome (j:=0) (by simp)
 have hBs:B.isSome=true:=hB.isSome (j:=0) (by simp)
 refine zj03 (keep:=K140) (nt:=47) (svs:=[.agg (In.sv x),.val (.string ⟨⟨nm⟩⟩),.adr A 0,.adr B 0]) Tryz.func140 x140 n140 (by simp) (by
  obtain⟨a,rfl⟩:=Option.isSome_iff_exists.1 hAs
  obtain⟨b,rfl⟩:=Option.isSome_iff_exists.1 hBs
  simp[IsL,Is,In.sv,In.val,In.cells,Addr.add]) fun R hR=>?_
 (refine Y_go 600 ?_; dsimp only[go_sem,In.sv,reduceAdd,Nat.reduceBEq,Int.reduceToNat])
 intro g g1
 have fin:∀ (y:In) (b:Bool) F H,tryL x nm ws s=(if b then some y else none)→denR H F [RV.cell 6 5 true,RV.tmp 7]=some [In.val y,.bool b]→RetG (cxOf Tryz.prog Tryz.f140 K140 T140 R) ⟨w,w.heap.size,[],47,[]⟩ { F:=F,H:=H }:=by
  intro y b F H he hd
  exact ret_rv (vs:=[In.val y,.bool b]) r140 rfl hd fun W hW=>hR _ _ ⟨⟨y,b,rfl,he⟩,hW.fresh'⟩
 have hsz:(⟨⟨nm⟩⟩:ByteArray).size=nm.length:=zj09 nm
 have hsz2:(⟨nm⟩:Array UInt8).size=nm.length:=rfl
 refine⟨_,_,_,hA.cell (j:=0) rfl,_,.add64 (by omega) (by omega),fun hne=>?_,fun he=>⟨_,_,_,hA.cell (j:=0) rfl,?_⟩⟩
 ·have hne:ws.length ≠ nm.length+1:=by
   have:=hne
   simp only[hsz,hsz2] at this
   intro e
   rw[e] at this
   simp at this
  exact fin x false _ _ (by rw[tryL,if_neg hne]; rfl) rfl
 have he:ws.length=nm.length+1:=by
  simp only[hsz,hsz2] at he
  have:(ws.length:Int)=(nm.length:Int)+1:=by simpa using he
  omega
 obtain⟨w0,ws1,rfl⟩:∃ w0 ws1,ws=w0 :: ws1:=by
  cases ws with
  | nil=>simp at he
  | cons a l=>exact⟨a,l,rfl⟩
 have he1:ws1.length=nm.length:=by simpa using he
 have hW1:RowAt w (subA WA c 1 1) (ws1.map Value.string):=RowAt.tail hW (by simp at hwc ⊢; omega)
 have htry:tryL x nm (w0 :: ws1) s=(match setL x nm ws1 with | some y=>if textL y=s then some y else none | none=>none):=by
  rw[tryL,if_pos (by simpa using he)]; rfl
 refine⟨⟨by omega,by simp; omega⟩,?_⟩
 refine zj08 (α:=In × Nat) (fun q=>q.2≤nm.length∧setL x nm ws1=setL q.1 (nm.drop q.2) (ws1.drop q.2)∧in64 q.1) (fun _=>⟨w,w.heap.size,[],47,[]⟩)
  (fun q=>{ F:=[(1,.val (.string ⟨⟨nm⟩⟩)),(2,.adr A 0),(3,.adr B 0),(4,.ptr 0 0),(6,.ptr 1 0),(20,.val (.slice (subA WA c 1 1) ((w0 :: ws1).length - 1) (c - 1))),(21,.val (.int .i64 ((w0 :: ws1).length - 1:Nat))),(22,.val (.int .i64 q.2))],H:=[.cells g 47 [.val (.int .i64 q.1.op),.val (.int .i64 q.1.a),.val (.int .i64 q.1.b),.val (.int .i64 q.1.c),.val (.int .i64 q.1.imm)],.cells g1 47 [.val (.int .i64 0),.val (.int .i64 0),.val (.int .i64 0),.val (.int .i64 0),.val (.int .i64 0)]] }) (fun q=>nm.length - q.2) (fun _=>rfl) ?start ?round
 case start =>
  intro a W rep
  exact⟨(x,0),⟨Nat.zero_le _,rfl,hx⟩,rep.lq⟩
 case round =>
  rintro ⟨y,k⟩ ⟨hk,hset,hy⟩ I hI
  (refine Y_go 600 ?_; dsimp only[go_sem,Nat.reduceBEq,reduceAdd])
  have hln:(ws1.length+1 - 1:Nat)=nm.length:=by omega
  refine⟨fun h=>?_,fun h=>?_⟩
  ·have hlt:k < nm.length:=by have:=of_decide_eq_true h; omega
   have hlw:k < ws1.length:=by omega
   have hcell:CellAt ⟨w,w.heap.size,[],47,[]⟩ (subA WA c 1 1) ((k:Int).toNat*1) (.string ws1[k]):=by
    rw[show (k:Int).toNat*1=k by omega]
    exact hW1.cell (by rw[List.getElem?_map,List.getElem?_eq_getElem hlw]; rfl)
   have hsome:(subA WA c 1 1).isSome=true:=hW1.isSome (j:=k) (by simpa using hlw)
   refine⟨⟨by omega,by omega,hsome⟩,_,hcell,?_⟩
   have hwk:(ws1[k]).size≤1000000:=hws _ (List.mem_cons_of_mem _ (List.getElem_mem hlw))
   have hstep:setL x nm ws1=(match Lib.atoiAll (ws1[k]).data.toList with | .ok n=>setL (setF y (nm[k]).toNat n) (nm.drop (k+1)) (ws1.drop (k+1)) | _=>none):=by
    rw[hset,List.drop_eq_getElem_cons hlt,List.drop_eq_getElem_cons hlw,setL]
    rfl
   refine zj00 (vs:=[.string ws1[k]]) (R:=fun v=>(∃ n t p,v=.tuple #[.int .i64 n,.iface t p]∧(∀ z,Lib.atoiAll (ws1[k]).data.toList ≠ .ok z))∨(∃ n,v=.tuple #[.int .i64 n,.nilIface]∧Lib.atoiAll (ws1[k]).data.toList=.ok n)) rfl
    (fun W hW=>(atoi36 _ W hwk (hLb.keep hW.fresh')).mono fun v w' h=>h.elim (fun h=>⟨.inl h.1,h.2⟩) (fun h=>⟨.inr h.1,h.2⟩)) fun v hv=>?_
   rcases hv with⟨n,t,p,rfl,hno⟩ | ⟨n,rfl,hok⟩
   ·refine⟨.tup [.val (.int .i64 n),.val (.iface t p)],by simp[Is,IsL],?_⟩
    (refine Y_go 600 ?_; dsimp only[go_sem,Nat.reduceBEq,reduceAdd])
    refine fin y false _ _ ?_ rfl
    have:setL x nm ws1=none:=by
     rw[hstep]
     cases e:Lib.atoiAll (ws1[k]).data.toList with
     | ok z=>exact absurd e (hno z)
     | _=>rfl
    rw[htry,this]; rfl
   ·refine⟨.tup [.val (.int .i64 n),.val .nilIface],by simp[Is,IsL],?_⟩
    have hn64:is64 n:=Lib.atoiAll_bounds hok
    rw[hok] at hstep
    have hstep:setL x nm ws1=setL (setF y (nm[k]).toNat n) (nm.drop (k+1)) (ws1.drop (k+1)):=hstep
    have hget:∀ u,nm[k]=u→(⟨⟨nm⟩⟩:ByteArray)[(k:Int).toNat]? = some u:=by
     intro u hu
     have h1:(k:Int).toNat=k:=by omega
     rw[h1,getElem?_pos _ _ (by show k < nm.length; exact hlt)]
     exact congrArg some hu
    (refine Y_go 600 ?_; dsimp only[go_sem,Nat.reduceBEq])
    rcases hnm nm[k] (List.getElem_mem hlt) with hc | hc | hc | hc | hc
    ·refine⟨by omega,65,hget _ hc,?_⟩
     refine zj00 (vs:=[.pointer (some ⟨g,0,none⟩),.int .u8 65]) rfl (fun W hW=>zj1p g 65 W) fun v hv=>⟨.ptr 0 1,by rw[hv]; simp only[Is]; exact⟨g,rfl,rfl⟩,?_⟩
     (refine Y_go 600 ?_; dsimp only[go_sem,Nat.reduceBEq])
     rw[hc] at hstep
     have e:setF y (((65:UInt8).toNat:Nat):Int) n={ y with a:=n }:=rfl
     have hy':=zj6r hy (c:=(((65:UInt8).toNat:Nat):Int)) hn64
     rw[e] at hstep hy'
     exact⟨_,.add64 (by omega) (by omega),zj02 fun a W rep=>hI ({ y with a:=n },k+1) ⟨by show k+1≤nm.length; omega,hstep,hy'⟩ (by dsimp only; omega) a W (rep.lq)⟩
    ·refine⟨by omega,66,hget _ hc,?_⟩
     refine zj00 (vs:=[.pointer (some ⟨g,0,none⟩),.int .u8 66]) rfl (fun W hW=>zj1p g 66 W) fun v hv=>⟨.ptr 0 2,by rw[hv]; simp only[Is]; exact⟨g,rfl,rfl⟩,?_⟩
     (refine Y_go 600 ?_; dsimp only[go_sem,Nat.reduceBEq])
     rw[hc] at hstep
     have e:setF y (((66:UInt8).toNat:Nat):Int) n={ y with b:=n }:=rfl
     have hy':=zj6r hy (c:=(((66:UInt8).toNat:Nat):Int)) hn64
     rw[e] at hstep hy'
     exact⟨_,.add64 (by omega) (by omega),zj02 fun a W rep=>hI ({ y with b:=n },k+1) ⟨by show k+1≤nm.length; omega,hstep,hy'⟩ (by dsimp only; omega) a W (rep.lq)⟩
    ·refine⟨by omega,67,hget _ hc,?_⟩
     refine zj00 (vs:=[.pointer (some ⟨g,0,none⟩),.int .u8 67]) rfl (fun W hW=>zj1p g 67 W) fun v hv=>⟨.ptr 0 3,by rw[hv]; simp only[Is]; exact⟨g,rfl,rfl⟩,?_⟩
     (refine Y_go 600 ?_; dsimp only[go_sem,Nat.reduceBEq])
     rw[hc] at hstep
     have e:setF y (((67:UInt8).toNat:Nat):Int) n={ y with c:=n }:=rfl
     have hy':=zj6r hy (c:=(((67:UInt8).toNat:Nat):Int)) hn64
     rw[e] at hstep hy'
     exact⟨_,.add64 (by omega) (by omega),zj02 fun a W rep=>hI ({ y with c:=n },k+1) ⟨by show k+1≤nm.length; omega,hstep,hy'⟩ (by dsimp only; omega) a W (rep.lq)⟩
    ·refine⟨by omega,73,hget _ hc,?_⟩
     refine zj00 (vs:=[.pointer (some ⟨g,0,none⟩),.int .u8 73]) rfl (fun W hW=>zj1p g 73 W) fun v hv=>⟨.ptr 0 4,by rw[hv]; simp only[Is]; exact⟨g,rfl,rfl⟩,?_⟩
     (refine Y_go 600 ?_; dsimp only[go_sem,Nat.reduceBEq])
     rw[hc] at hstep
     have e:setF y (((73:UInt8).toNat:Nat):Int) n={ y with imm:=n }:=rfl
     have hy':=zj6r hy (c:=(((73:UInt8).toNat:Nat):Int)) hn64
     rw[e] at hstep hy'
     exact⟨_,.add64 (by omega) (by omega),zj02 fun a W rep=>hI ({ y with imm:=n },k+1) ⟨by show k+1≤nm.length; omega,hstep,hy'⟩ (by dsimp only; omega) a W (rep.lq)⟩
    ·refine⟨by omega,79,hget _ hc,?_⟩
     refine zj00 (vs:=[.pointer (some ⟨g,0,none⟩),.int .u8 79]) rfl (fun W hW=>zj1p g 79 W) fun v hv=>⟨.ptr 0 0,by rw[hv]; simp only[Is]; exact⟨g,rfl,rfl⟩,?_⟩
     (refine Y_go 600 ?_; dsimp only[go_sem,Nat.reduceBEq])
     rw[hc] at hstep
     have e:setF y (((79:UInt8).toNat:Nat):Int) n={ y with op:=n }:=rfl
     have hy':=zj6r hy (c:=(((79:UInt8).toNat:Nat):Int)) hn64
     rw[e] at hstep hy'
     exact⟨_,.add64 (by omega) (by omega),zj02 fun a W rep=>hI ({ y with op:=n },k+1) ⟨by show k+1≤nm.length; omega,hstep,hy'⟩ (by dsimp only; omega) a W (rep.lq)⟩
  ·have hkl:k=nm.length:=by have:=of_decide_eq_false h; have:=hk; dsimp only at this; omega
   subst hkl
   refine⟨_,hB.cell (j:=0) rfl,?_⟩
   refine zj00 (vs:=[In.val y]) rfl (fun W hW=>text16 y W hy (hG.keep hW.fresh') (hT.keep hW.fresh')) fun v hv=>⟨.val (.string ⟨⟨textL y⟩⟩),by rw[hv]; simp[Is],?_⟩
   (refine Y_go 600 ?_; dsimp only[go_sem])
   (refine zj1f (by dsimp only[go_sem,Nat.reduceBEq,reduceAdd]; exact⟨_,hB.cell (j:=0) rfl,rfl,zj06 rfl⟩) ?_; refine Y_go 600 ?_; dsimp only[go_sem])
   (refine zj1f (by dsimp only[go_sem,Nat.reduceBEq,reduceAdd]; exact⟨rfl,zj06 rfl⟩) ?_; refine Y_go 600 ?_; dsimp only[go_sem,Nat.reduceBEq,reduceAdd])
   (refine zj1f (by dsimp only[go_sem,Nat.reduceBEq,reduceAdd]; exact⟨_,hB.cell (j:=0) rfl,rfl,zj06 rfl⟩) ?_; refine Y_go 600 ?_; dsimp only[go_sem,Nat.reduceBEq])
   refine fin y (strB .eql ⟨⟨textL y⟩⟩ ⟨⟨s⟩⟩) _ _ ?_ rfl
   have e1:setL x nm ws1=some y:=by
    rw[hset,List.drop_of_length_le (Nat.le_refl _)]; rfl
   rw[htry,e1,strEq]
   by_cases hq:textL y=s
   ·simp[hq]
   ·simp[hq]
end Go.Proofs.YtgghmmjoplddbaaGreatDoor
