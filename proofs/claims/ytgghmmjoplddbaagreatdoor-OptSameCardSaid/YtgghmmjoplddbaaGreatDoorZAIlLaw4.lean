/- The walk: what a line says (isa.Parse). -/
import Derived.Test.YtgghmmjoplddbaaGreatDoorZAIlLaw2
set_option linter.unusedSimpArgs false
set_option linter.unusedVariables false
set_option linter.unnecessarySimpa false
namespace Go.Proofs.YtgghmmjoplddbaaGreatDoor
open Go Go.Sx Go.Isa
open Nat (reduceAdd reduceLT)
set_option maxRecDepth 100000
theorem sh_take (j:Nat) (hj:j < 19):takeL 2 (dropL ((j:Int).toNat*2) ([.val (.string ⟨⟨wdL 0⟩⟩),.val (.string ⟨⟨nmL 0⟩⟩),.val (.string ⟨⟨wdL 1⟩⟩),.val (.string ⟨⟨nmL 1⟩⟩),.val (.string ⟨⟨wdL 2⟩⟩),.val (.string ⟨⟨nmL 2⟩⟩),.val (.string ⟨⟨wdL 3⟩⟩),.val (.string ⟨⟨nmL 3⟩⟩),.val (.string ⟨⟨wdL 4⟩⟩),.val (.string ⟨⟨nmL 4⟩⟩),.val (.string ⟨⟨wdL 5⟩⟩),.val (.string ⟨⟨nmL 5⟩⟩),.val (.string ⟨⟨wdL 6⟩⟩),.val (.string ⟨⟨nmL 6⟩⟩),.val (.string ⟨⟨wdL 7⟩⟩),.val (.string ⟨⟨nmL 7⟩⟩),.val (.string ⟨⟨wdL 8⟩⟩),.val (.string ⟨⟨nmL 8⟩⟩),.val (.string ⟨⟨wdL 9⟩⟩),.val (.string ⟨⟨nmL 9⟩⟩),.val (.string ⟨⟨wdL 10⟩⟩),.val (.string ⟨⟨nmL 10⟩⟩),.val (.string ⟨⟨wdL 11⟩⟩),.val (.string ⟨⟨nmL 11⟩⟩),.val (.string ⟨⟨wdL 12⟩⟩),.val (.string ⟨⟨nmL 12⟩⟩),.val (.string ⟨⟨wdL 13⟩⟩),.val (.string ⟨⟨nmL 13⟩⟩),.val (.string ⟨⟨wdL 14⟩⟩),.val (.string ⟨⟨nmL 14⟩⟩),.val (.string ⟨⟨wdL 15⟩⟩),.val (.string ⟨⟨nmL 15⟩⟩),.val (.string ⟨⟨wdL 16⟩⟩),.val (.string ⟨⟨nmL 16⟩⟩),.val (.string ⟨⟨wdL 17⟩⟩),.val (.string ⟨⟨nmL 17⟩⟩),.val (.string ⟨⟨wdL 18⟩⟩),.val (.string ⟨⟨nmL 18⟩⟩)]:List SV))=some [.val (.string ⟨⟨wdL j⟩⟩),.val (.string ⟨⟨nmL j⟩⟩)]:=by
 have:j=0∨j=1∨j=2∨j=3∨j=4∨j=5∨j=6∨j=7∨j=8∨j=9∨j=10∨j=11∨j=12∨j=13∨j=14∨j=15∨j=16∨j=17∨j=18:=by omega
 rcases this with rfl | rfl | rfl | rfl | rfl | rfl | rfl | rfl | rfl | rfl | rfl | rfl | rfl | rfl | rfl | rfl | rfl | rfl | rfl <;> rfl
theorem strNe (a:ByteArray):strB .neq a a=false:=by simp[strB]
theorem strNeq (a b:List UInt8):strB .neq ⟨⟨a⟩⟩ ⟨⟨b⟩⟩=!decide (a=b):=by
 rw[← strEq]; rfl
theorem ok35:fnOk Tryz.prog 140=true:=by kernel_rfl
theorem own_cap {E:Env} {H:List SO} {W:World} (h:HeapOk E H W) {i:Nat} {t:TypeId} {ver sz n c:Nat} {A:Option Addr} {xs:List Value} (hi:nth H i=some (.own t ver sz A n c xs)):n≤c:=h.cap hi
theorem piece_le (sep:ByteArray):∀ (k:Nat) (s v:ByteArray),v ∈ Lib.splitB sep 0 k s→v.size≤s.size
 | 0,s,v,h=>by
  rw[Lib.splitB_zero] at h
  simp at h; subst h; exact Nat.le_refl _
 | k+1,s,v,h=>by
  unfold Lib.splitB at h
  split at h
  ·simp at h; subst h; exact Nat.le_refl _
  ·rcases List.mem_cons.1 h with h | h
   ·subst h; rw[ByteArray.size_extract]; omega
   ·have:=piece_le sep k _ v h
    rw[ByteArray.size_extract] at this; omega
theorem ws_len (s:List UInt8):(wsL s).length=Lib.countB ⟨⟨s⟩⟩ ⟨⟨[32]⟩⟩+1:=Lib.splitB_all ⟨⟨[32]⟩⟩ (by decide) 0 _ ⟨⟨s⟩⟩ rfl
theorem ws_le (s:List UInt8):(wsL s).length≤s.length+1:=by
 have:=Lib.countB_le ⟨⟨[32]⟩⟩ (by decide) s.length ⟨⟨s⟩⟩ (by rw[zj09]; exact Nat.le_refl _)
 rw[zj09] at this
 rw[ws_len]; omega
theorem ws_piece (s:List UInt8):∀ v ∈ wsL s,v.size≤s.length:=fun v h=>by
 have:=piece_le _ _ _ v h
 rw[zj09] at this; exact this
theorem parse14 (s:List UInt8) (w:World) (hs:s.length≤500000) (hG:ShAt w) (hT:TabAt w) (hLb:LibAt w) :
  CallsV Tryz.prog 116 [.string ⟨⟨s⟩⟩] w fun v w'=>v=(match parseL s with | some y=>.tuple #[In.val y,.int .i64 0] | none=>.tuple #[In.val zeroI,.int .i64 2])∧Fresh w w':=by
 refine zj03 (keep:=K116) (nt:=56) (svs:=[.val (.string ⟨⟨s⟩⟩)]) Tryz.func116 x116 n116 (by simp) (by simp[IsL,Is]) fun R hR=>?_
 (refine Y_go 600 ?_; dsimp only[go_sem,reduceAdd,Nat.reduceBEq])
 intro g g1
 refine zj36 (fun _ _ _ h=>h) ?_
 (refine Y_go 600 ?_; dsimp only[go_sem,Nat.reduceBEq,reduceAdd])
 refine zj1d (vs:=[.string ⟨⟨s⟩⟩,.string ⟨⟨[32]⟩⟩]) rfl (fun W hW=>split34 ⟨⟨s⟩⟩ W (by first | (rw[zj09]; omega) | (simp[ByteArray.size]; omega)) (hLb.keep hW.fresh')) fun A c=>?_
 (refine Y_go 600 ?_; dsimp only[go_sem,reduceAdd,Nat.reduceBEq,Int.reduceToNat,Nat.reduceMul])
 intro g2
 have hl:=ws_len s
 have hle:=ws_le s
 have hpc:=ws_piece s
 obtain⟨w0,ws1,hcons⟩:∃ w0 ws1,wsL s=w0 :: ws1:=by
  cases h:wsL s with
  | nil=>rw[h] at hl; simp at hl
  | cons a l=>exact⟨a,l,rfl⟩
 have hw0:w0L s=w0.data.toList:=by unfold w0L; rw[hcons]; rfl
 have hget0:((wsL s).map Value.string)[0]? = some (.string w0):=by rw[hcons]; rfl
 have fin:∀ F H y e,denR H F [RV.cell 2 5 true,RV.tmp 3]=some [In.val y,.int .i64 e]→(match parseL s with | some y=>Value.tuple #[In.val y,.int .i64 0] | none=>.tuple #[In.val zeroI,.int .i64 2])=.tuple #[In.val y,.int .i64 e]→RetG (cxOf Tryz.prog Tryz.f116 K116 T116 R) ⟨w,w.heap.size,[],56,[]⟩ { F:=F,H:=H }:=by
  intro F H y e hd hp
  exact ret_rv (vs:=[In.val y,.int .i64 e]) r116 rfl hd fun W hW=>hR _ _ ⟨by rw[hp]; rfl,hW.fresh'⟩
 have hz64:∀ op:Int,is64 op→in64 (opI op):=fun op h=>⟨h,by simp[opI,is64],by simp[opI,is64],by simp[opI,is64],by simp[opI,is64]⟩
 have tryC:∀ (x:In) (nm:List UInt8) (W:World) (H:List SO),HeapOk ⟨w,w.heap.size,[],56,[]⟩ H W→nth H 0=some (.cells g 9 [.val (.string ⟨⟨s⟩⟩)])→nth H 2=some (.own 9 0 1 A (Lib.countB ⟨⟨s⟩⟩ ⟨⟨[32]⟩⟩+1) c ((wsL s).map Value.string))→nth H 3=some (.cells g2 94 [.own 2 0])→in64 x→(∀ c ∈ nm,Ltr c)→nm.length≤5 →
   CallsV Tryz.prog 140 [In.val x,.string ⟨⟨nm⟩⟩,.pointer (some ⟨g2,0,none⟩),.pointer (some ⟨g,0,none⟩)] W fun v w'=>(∃ y b,v=.tuple #[In.val y,.bool b]∧tryL x nm (wsL s) s=(if b then some y else none))∧Fresh W w':=by
  intro x nm W H hW h0 h2 h3 hx hnm hnl
  have hA:RowAt W (some ⟨g2,0,none⟩) [.slice A (wsL s).length c]:=by
   rw[hl]
   refine hW.cellsAt h3 ?_
   simp only[denL,den,h2]; rfl
  have hcap:=own_cap hW h2
  exact try35 x nm (some ⟨g2,0,none⟩) (some ⟨g,0,none⟩) A c (wsL s) s W hx hnm hnl (fun v hv=>by have:=hpc v hv; omega) (by rw[hl]; exact hcap) (by omega) (by omega) hA (hW.cellsAt h0 rfl) (hW.rowAt h2) (hG.keep hW.fresh') (hT.keep hW.fresh') (hLb.keep hW.fresh')
 refine⟨⟨by omega,by omega⟩,w0,hget0,fun hr=>?_,fun hr=>?_⟩
 ·have hraw:w0L s=rawW:=by
   have e:w0=⟨⟨w0.data.toList⟩⟩:=rfl
   rw[e,strEq] at hr
   rw[hw0]; exact of_decide_eq_true hr
  have hp:parseL s=tryL zeroI rawN (wsL s) s:=by rw[parseL,if_pos hraw]
  refine zj07 (f:=140) (fst:=[]) (caps:=[.pointer (some ⟨g2,0,none⟩),.pointer (some ⟨g,0,none⟩)]) (vs:=[In.val zeroI,.string ⟨⟨rawN⟩⟩]) (R:=fun v=>∃ y b,v=.tuple #[In.val y,.bool b]∧tryL zeroI rawN (wsL s) s=(if b then some y else none)) rfl ok35 rfl (fun W hW=>tryC zeroI rawN W _ hW rfl rfl rfl (hz64 0 ⟨by omega,by omega⟩) (by unfold Ltr; decide) (by decide)) fun v hv=>?_
  obtain⟨y,b,rfl,ht⟩:=hv
  cases b with
  | true =>
   refine⟨.tup [.agg (In.sv y),.bt],by simp[Is,IsL,In.sv,In.val,In.cells],?_⟩
   (refine Y_go 600 ?_; dsimp only[go_sem,In.sv,Nat.reduceBEq,reduceAdd])
   intro g3
   exact fin _ _ y 0 rfl (by rw[hp,ht]; rfl)
  | false =>
   refine⟨.tup [.agg (In.sv y),.bf],by simp[Is,IsL,In.sv,In.val,In.cells],?_⟩
   (refine Y_go 600 ?_; dsimp only[go_sem,In.sv,Nat.reduceBEq,reduceAdd])
   intro g3
   exact fin _ _ zeroI 2 rfl (by rw[hp,ht]; rfl)
 ·have hraw:w0L s ≠ rawW:=by
   have e:w0=⟨⟨w0.data.toList⟩⟩:=rfl
   rw[e,strEq] at hr
   rw[hw0]; exact of_decide_eq_false hr
  have hp:parseL s=findL s 19 0:=by rw[parseL,if_neg hraw]
  refine⟨_,hG.cell (j:=0) rfl,_,hG.cell (j:=1) rfl,_,hG.cell (j:=2) rfl,_,hG.cell (j:=3) rfl,_,hG.cell (j:=4) rfl,_,hG.cell (j:=5) rfl,_,hG.cell (j:=6) rfl,_,hG.cell (j:=7) rfl,_,hG.cell (j:=8) rfl,_,hG.cell (j:=9) rfl,_,hG.cell (j:=10) rfl,_,hG.cell (j:=11) rfl,_,hG.cell (j:=12) rfl,_,hG.cell (j:=13) rfl,_,hG.cell (j:=14) rfl,_,hG.cell (j:=15) rfl,_,hG.cell (j:=16) rfl,_,hG.cell (j:=17) rfl,_,hG.cell (j:=18) rfl,_,hG.cell (j:=19) rfl,_,hG.cell (j:=20) rfl,_,hG.cell (j:=21) rfl,_,hG.cell (j:=22) rfl,_,hG.cell (j:=23) rfl,_,hG.cell (j:=24) rfl,_,hG.cell (j:=25) rfl,_,hG.cell (j:=26) rfl,_,hG.cell (j:=27) rfl,_,hG.cell (j:=28) rfl,_,hG.cell (j:=29) rfl,_,hG.cell (j:=30) rfl,_,hG.cell (j:=31) rfl,_,hG.cell (j:=32) rfl,_,hG.cell (j:=33) rfl,_,hG.cell (j:=34) rfl,_,hG.cell (j:=35) rfl,_,hG.cell (j:=36) rfl,_,hG.cell (j:=37) rfl,?_⟩
  refine zj08 (α:=Nat) (fun j=>j≤19∧findL s 19 0=findL s (19 - j) (j:Int)) (fun _=>⟨w,w.heap.size,[],56,[]⟩)
   (fun j=>{ F:=[(1,.ptr 0 0),(2,.ptr 1 0),(4,.ptr 3 0),(5,.fn (.func 140) [] [.ptr 3 0,.ptr 0 0]),(28,.agg [.val (.string ⟨⟨wdL 0⟩⟩),.val (.string ⟨⟨nmL 0⟩⟩),.val (.string ⟨⟨wdL 1⟩⟩),.val (.string ⟨⟨nmL 1⟩⟩),.val (.string ⟨⟨wdL 2⟩⟩),.val (.string ⟨⟨nmL 2⟩⟩),.val (.string ⟨⟨wdL 3⟩⟩),.val (.string ⟨⟨nmL 3⟩⟩),.val (.string ⟨⟨wdL 4⟩⟩),.val (.string ⟨⟨nmL 4⟩⟩),.val (.string ⟨⟨wdL 5⟩⟩),.val (.string ⟨⟨nmL 5⟩⟩),.val (.string ⟨⟨wdL 6⟩⟩),.val (.string ⟨⟨nmL 6⟩⟩),.val (.string ⟨⟨wdL 7⟩⟩),.val (.string ⟨⟨nmL 7⟩⟩),.val (.string ⟨⟨wdL 8⟩⟩),.val (.string ⟨⟨nmL 8⟩⟩),.val (.string ⟨⟨wdL 9⟩⟩),.val (.string ⟨⟨nmL 9⟩⟩),.val (.string ⟨⟨wdL 10⟩⟩),.val (.string ⟨⟨nmL 10⟩⟩),.val (.string ⟨⟨wdL 11⟩⟩),.val (.string ⟨⟨nmL 11⟩⟩),.val (.string ⟨⟨wdL 12⟩⟩),.val (.string ⟨⟨nmL 12⟩⟩),.val (.string ⟨⟨wdL 13⟩⟩),.val (.string ⟨⟨nmL 13⟩⟩),.val (.string ⟨⟨wdL 14⟩⟩),.val (.string ⟨⟨nmL 14⟩⟩),.val (.string ⟨⟨wdL 15⟩⟩),.val (.string ⟨⟨nmL 15⟩⟩),.val (.string ⟨⟨wdL 16⟩⟩),.val (.string ⟨⟨nmL 16⟩⟩),.val (.string ⟨⟨wdL 17⟩⟩),.val (.string ⟨⟨nmL 17⟩⟩),.val (.string ⟨⟨wdL 18⟩⟩),.val (.string ⟨⟨nmL 18⟩⟩)]),(29,.val (.int .i64 j))],H:=[.cells g 9 [.val (.string ⟨⟨s⟩⟩)],.cells g1 47 [.val (.int .i64 0),.val (.int .i64 0),.val (.int .i64 0),.val (.int .i64 0),.val (.int .i64 0)],.own 9 0 1 A (Lib.countB ⟨⟨s⟩⟩ ⟨⟨[32]⟩⟩+1) c ((wsL s).map Value.string),.cells g2 94 [.own 2 0]] }) (fun j=>19 - j) (fun _=>rfl) ?start ?round
  case start =>
   intro a W rep
   exact⟨0,⟨Nat.zero_le _,rfl⟩,rep.le (by (simp only[go_sem,lk,Nat.reduceBEq,reduceLT,reduceAdd] <;> try simp); decide) (by (simp only[go_sem,lk,Nat.reduceBEq,reduceLT,reduceAdd] <;> try simp); rfl)⟩
  case round =>
   rintro j ⟨hj,hf⟩ I hI
   (refine Y_go 600 ?_; dsimp only[go_sem,Nat.reduceBEq,reduceAdd])
   refine⟨fun h=>?_,fun h=>?_⟩
   ·have hlt:j < 19:=by have:=of_decide_eq_true h; omega
    refine⟨⟨by omega,by omega⟩,_,sh_take j hlt,fun g4=>?_⟩
    dsimp only[go_sem,reduceAdd,Nat.reduceBEq,Int.reduceToNat,Nat.reduceMul]
    have hj1:((j+1:Nat):Int)=(j:Int)+1:=by omega
    have hstep:findL s (19 - j) (j:Int)=if 1≤(j:Int)∧wdL j=w0L s then (match tryL (opI j) (nmL j) (wsL s) s with | some y=>some y | none=>findL s (19 - (j+1)) ((j+1:Nat):Int)) else findL s (19 - (j+1)) ((j+1:Nat):Int):=by
     rw[show 19 - j=(19 - (j+1))+1 by omega,findL,hj1]
     rfl
    rw[hstep] at hf
    refine⟨fun h1=>⟨_,.add64 (by omega) (by omega),zj02 fun a W rep=>hI (j+1) ⟨by omega,?s1⟩ (by omega) a W (rep.lq)⟩,fun h1=>⟨⟨by omega,by omega⟩,w0,hget0,fun hne=>⟨_,.add64 (by omega) (by omega),zj02 fun a W rep=>hI (j+1) ⟨by omega,?s2⟩ (by omega) a W (rep.lq)⟩,fun heq=>?_⟩⟩
    case s1 =>
     rw[hf,if_neg (by have:=of_decide_eq_true h1; omega)]
    case s2 =>
     rw[hf,if_neg]
     intro k
     have e:w0=⟨⟨w0.data.toList⟩⟩:=rfl
     rw[k.2,hw0,← e,strNe] at hne
     cases hne
    have h1:=of_decide_eq_false h1
    have hweq:wdL j=w0L s:=by
     have e:w0=⟨⟨w0.data.toList⟩⟩:=rfl
     rw[e,strNeq] at heq
     rw[hw0]; simpa using heq
    rw[if_pos ⟨by omega,hweq⟩] at hf
    refine zj07 (f:=140) (fst:=[]) (caps:=[.pointer (some ⟨g2,0,none⟩),.pointer (some ⟨g,0,none⟩)]) (vs:=[In.val (opI j),.string ⟨⟨nmL j⟩⟩]) (R:=fun v=>∃ y b,v=.tuple #[In.val y,.bool b]∧tryL (opI j) (nmL j) (wsL s) s=(if b then some y else none)) rfl ok35 rfl (fun W hW=>tryC (opI j) (nmL j) W _ hW rfl rfl rfl (hz64 j ⟨by omega,by omega⟩) (nm_ok _).2 (by have:=(nm_ok j).1; omega)) fun v hv=>?_
    obtain⟨y,b,rfl,ht⟩:=hv
    cases b with
    | true =>
     refine⟨.tup [.agg (In.sv y),.bt],by simp[Is,IsL,In.sv,In.val,In.cells],?_⟩
     (refine Y_go 600 ?_; dsimp only[go_sem,In.sv,Nat.reduceBEq,reduceAdd])
     intro g5
     exact fin _ _ y 0 rfl (by rw[hp,hf,ht]; rfl)
    | false =>
     refine⟨.tup [.agg (In.sv y),.bf],by simp[Is,IsL,In.sv,In.val,In.cells],?_⟩
     (refine Y_go 600 ?_; dsimp only[go_sem,In.sv,Nat.reduceBEq,reduceAdd])
     intro g5
     refine⟨_,.add64 (by omega) (by omega),zj02 fun a W rep=>hI (j+1) ⟨by omega,?_⟩ (by omega) a W (rep.lq)⟩
     rw[hf,ht]; rfl
   ·have hje:j=19:=by have:=of_decide_eq_false h; omega
    subst hje
    exact fin _ _ zeroI 2 rfl (by rw[hp,hf]; rfl)
end Go.Proofs.YtgghmmjoplddbaaGreatDoor
