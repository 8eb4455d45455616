/- The document's small questions (shuntref15): what goes, what is a word, what is a name, what label a line tells. -/
import Derived.Test.YtaiajnehnjnadaaGreatDoorMAsW1
import Derived.Test.YtaiajnehnjnadaaGreatDoorMIrLaw4
import Derived.Test.YtaiajnehnjnadaaGreatDoorMRfCode
set_option linter.unusedSimpArgs false
set_option linter.unusedVariables false
set_option linter.unnecessarySimpa false
namespace Go.Proofs.YtaiajnehnjnadaaGreatDoor
open Go Go.Sx Go.Isa Go.Asm
open Nat (reduceAdd reduceLT)
set_option maxRecDepth 100000
theorem goes23 (op:Int) (w:World):CallsV Tryz.prog 23 [.int .i64 op] w fun v w'=>v=.bool (goOp op)∧Fresh w w':=by
 refine zj05 (keep:=K23) (nt:=9) (svs:=[.val (.int .i64 op)]) Tryz.func23 x23 n23 (by simp) (by simp[IsL,Is]) fun R hR=>?_
 (refine Y_go 600 ?_; dsimp only[go_sem,reduceAdd,Nat.reduceBEq])
 have fin:∀ F H b,denAll H F [2]=some [.bool b]→b=goOp op→RetG (cxOf Tryz.prog Tryz.f23 K23 T23 R) ⟨w,w.heap.size,[],9,[]⟩ { F:=F,H:=H }:=fun F H b hd hb =>
  zj03 (vs:=[.bool b]) r23 rfl hd fun W hW=>hR _ _ ⟨by rw[hb]; rfl,hW.fresh'⟩
 refine⟨fun h=>fin _ _ _ rfl ?_,fun h=>fin _ _ _ rfl ?_⟩
 ·have h:=of_decide_eq_true h
  unfold goOp; rw[decide_eq_true (show (13:Int)≤op from h)]; rfl
 ·have h:=of_decide_eq_false h
  unfold goOp; rw[decide_eq_false (show ¬ (13:Int)≤op from h)]; rfl
def nb (c:UInt8):Bool:=c != 32
theorem tw_all:∀ t:B,(∀ j,j < t.length→t[j]? ≠ some 32)→t.takeWhile nb=t
 | [],_=>rfl
 | c :: t,h=>by
  have h0:nb c=true:=by
   have:=h 0 (by simp)
   unfold nb; simpa using this
  rw[List.takeWhile_cons,h0,if_pos rfl,tw_all t fun j hj=>by have:=h (j+1) (by simpa using hj); simpa using this]
theorem tw_take:∀ (t:B) (k:Nat),t[k]? = some 32→(∀ j,j < k→t[j]? ≠ some 32)→t.takeWhile nb=t.take k
 | [],k,h,_=>by simp at h
 | c :: t,0,h,_=>by
  have:c=32:=by simpa using h
  subst this; rfl
 | c :: t,k+1,h,hn=>by
  have h0:nb c=true:=by
   have:=hn 0 (by omega)
   unfold nb; simpa using this
  rw[List.takeWhile_cons,h0,if_pos rfl,List.take_succ_cons,tw_take t k (by simpa using h) fun j hj=>by have:=hn (j+1) (by omega); simpa using this]
theorem tw_cut (t:B) (k:Nat) (h:t[k]? = some 32) (hn:∀ j,j < k→t[j]? ≠ some 32):(t.take k).takeWhile nb=t.takeWhile nb:=by
 rw[tw_take t k h hn]
 refine tw_all _ fun j hj=>?_
 have:j < k:=by rw[List.length_take] at hj; omega
 rw[List.getElem?_take_of_lt this]
 exact hn j this
theorem word_tw:∀ n:Nat,n < 18→(textL (opI ((n:Int)+1))).takeWhile nb=wdL ((n:Int)+1):=by decide +kernel
structure WInv (W t:B) (k:Nat):Prop where
 tw:t.takeWhile nb=W
 no:∀ j,j < k→t[j]? ≠ some 32
 le:t.length≤100
 kl:k≤101
theorem word35 (s:B) (w:World):CallsV Tryz.prog 35 [.string ⟨⟨s⟩⟩] w fun v w'=>v=.bool (wordB s)∧Fresh w w':=by
 refine zj05 (keep:=K35) (nt:=31) (svs:=[.val (.string ⟨⟨s⟩⟩)]) Tryz.func35 x35 n35 (by simp) (by simp[IsL,Is]) fun R hR=>?_
 (refine Y_go 600 ?_; dsimp only[go_sem,reduceAdd,Nat.reduceBEq])
 have fin:∀ F H b,denAll H F [2]=some [.bool b]→b=wordB s→RetG (cxOf Tryz.prog Tryz.f35 K35 T35 R) ⟨w,w.heap.size,[],31,[]⟩ { F:=F,H:=H }:=fun F H b hd hb =>
  zj03 (vs:=[.bool b]) r35 rfl hd fun W hW=>hR _ _ ⟨by rw[hb]; rfl,hW.fresh'⟩
 refine zj09 (α:=Nat) (fun i=>i≤18∧wordN s i=false) (fun _=>⟨w,w.heap.size,[],31,[]⟩) (fun i=>{ F:=[(0,.val (.string ⟨⟨s⟩⟩)),(3,.val (.int .i64 ((i:Int)+1)))],H:=[] }) (fun i=>18 - i) (fun _=>rfl) ?start ?round
 case start =>
  intro a W rep
  exact⟨0,⟨Nat.zero_le _,rfl⟩,rep.lq⟩
 case round =>
  rintro i ⟨hi,hn⟩ I again
  (refine Y_go 600 ?_; dsimp only[go_sem,Nat.reduceBEq])
  refine⟨fun hlt=>?_,fun hge=>?_⟩
  ·have hlt:i < 18:=by have:=of_decide_eq_true hlt; omega
   refine zj00 (vs:=[In.val (opI ((i:Int)+1))]) rfl (fun W hW=>text17 (opI ((i:Int)+1)) W (op64 ⟨by omega,by omega⟩)) fun v hv=>⟨.val (.string ⟨⟨textL (opI ((i:Int)+1))⟩⟩),by rw[hv]; simp[Is],?_⟩
   (refine Y_go 600 ?_; dsimp only[go_sem,Nat.reduceBEq])
   have htx:=zj4e i hlt
   have htw:=word_tw i hlt
   generalize textL (opI ((i:Int)+1))=t0 at htx htw
   refine zj09 (α:=B × Nat) (fun x=>WInv (wdL ((i:Int)+1)) x.1 x.2) (fun _=>⟨w,w.heap.size,[],31,[]⟩) (fun x=>{ F:=[(0,.val (.string ⟨⟨s⟩⟩)),(3,.val (.int .i64 ((i:Int)+1))),(4,.val (.string ⟨⟨x.1⟩⟩)),(5,.val (.int .i64 (x.2:Int)))],H:=[] }) (fun x=>101 - x.2) (fun _=>rfl) ?start ?round
   case start =>
    intro a W rep
    exact⟨(t0,0),⟨htw,fun j hj=>absurd hj (Nat.not_lt_zero _),htx,by omega⟩,rep.lq⟩
   case round =>
    rintro ⟨t,k⟩ hv I2 again2
    obtain⟨h1,h2,h3,h4⟩:=hv
    simp only at h1 h2 h3 h4
    (refine Y_go 600 ?_; dsimp only[go_sem,Nat.reduceBEq,Int.reduceToNat])
    have hsz:(⟨⟨t⟩⟩:ByteArray).size=t.length:=zj02 t
    have hsz2:(⟨t⟩:Array UInt8).size=t.length:=rfl
    refine⟨fun hlt2=>?_,fun hge2=>?_⟩
    ·have hlt2:k < t.length:=by have:=of_decide_eq_true hlt2; omega
     have hx:t[k]? = some t[k]:=List.getElem?_eq_getElem hlt2
     generalize t[k]=d at hx
     have hk:((k:Nat):Int).toNat=k:=by omega
     rw[hk,ba_get]
     refine⟨by omega,d,hx,fun he=>?_,fun he=>?_⟩
     ·have hd:d=32:=by have:=eq_of_beq he; exact UInt8.toNat_inj.1 (by show d.toNat=32; omega)
      subst hd
      refine⟨⟨by omega,by omega,by simp only[hsz,hsz2]; omega⟩,((k+1:Nat):Int),ArOk.to (by omega) (by omega) (by omega),zj01 fun a W rep=>again2 (t.take k,k+1) ⟨by rw[← h1]; exact tw_cut t k hx h2,fun j hj=>?_,by simp; omega,by show k+1≤101; omega⟩ (by show 101 - (k+1) < 101 - k; omega) a W (rep.le (by rw[zj1w]; (simp only[go_sem,lk,Nat.reduceBEq,reduceLT,reduceAdd] <;> try simp)) (by (simp only[go_sem,lk,Nat.reduceBEq,reduceLT,reduceAdd] <;> try simp)))⟩
      by_cases e:j=k
      ·subst e
       show (t.take j)[j]? ≠ some 32
       rw[List.getElem?_eq_none (by rw[List.length_take]; omega)]; simp
      ·show (t.take k)[j]? ≠ some 32
       rw[List.getElem?_take_of_lt (by omega)]; exact h2 j (by omega)
     ·have hd:d ≠ 32:=by
       intro e; subst e; simp at he
      exact⟨((k+1:Nat):Int),ArOk.to (by omega) (by omega) (by omega),zj01 fun a W rep=>again2 (t,k+1) ⟨h1,fun j hj=>by
       by_cases e:j=k
       ·subst e; show t[j]? ≠ _; rw[hx]; simpa using hd
       ·exact h2 j (by omega),h3,by show k+1≤101; omega⟩ (by show 101 - (k+1) < 101 - k; omega) a W (rep.lq)⟩
    ·have hge2:t.length≤k:=by have:=of_decide_eq_false hge2; omega
     have ht:t=wdL ((i:Int)+1):=by rw[← h1]; exact (tw_all t fun j hj=>h2 j (by omega)).symm
     have hstep:wordN s (i+1)=(wordN s i || (wdL ((i:Int)+1) == s)):=rfl
     have up:∀ k m,k≤m→wordN s k=true→wordN s m=true:=by
      intro k m hkm hk
      induction m with
      | zero => have : k = 0 := by omega
                subst this; exact hk
      | succ m ih =>
       by_cases e:k=m+1
       ·subst e; exact hk
       ·simp[wordN,ih (by omega)]
     refine⟨fun h=>fin _ _ true rfl ?_,fun h=>⟨((i+1:Nat):Int)+1,ArOk.to (by omega) (by omega) (by omega),zj01 fun a W rep=>again (i+1) ⟨by omega,?_⟩ (by omega) a W (rep.lq)⟩⟩
     ·have h:decide (t=s)=true:=(strEq _ _).symm.trans h
      have h:=of_decide_eq_true h
      have hw:wordN s 18=true:=up (i+1) 18 (by omega) (by rw[hstep,← ht,h]; simp)
      unfold wordB; rw[hw]; simp
     ·have h:decide (t=s)=false:=(strEq _ _).symm.trans h
      have h:=of_decide_eq_false h
      rw[hstep,hn,← ht]; simpa using h
  ·have hil:i=18:=by have:=of_decide_eq_false hge; omega
   subst hil
   refine fin _ _ _ rfl ?_
   have h:strB .eql ⟨⟨s⟩⟩ ⟨⟨rawW⟩⟩=decide (s=rawW):=strEq s rawW
   show strB .eql ⟨⟨s⟩⟩ ⟨⟨rawW⟩⟩=wordB s
   rw[h]
   unfold wordB; rw[hn,Bool.or_false,Bool.eq_iff_iff]; simp
theorem name20 (s:B) (w:World) (hs:s.length≤1000000):CallsV Tryz.prog 20 [.string ⟨⟨s⟩⟩] w fun v w'=>v=.bool (nameB s)∧Fresh w w':=by
 refine zj05 (keep:=K20) (nt:=67) (svs:=[.val (.string ⟨⟨s⟩⟩)]) Tryz.func20 x20 n20 (by simp) (by simp[IsL,Is]) fun R hR=>?_
 (refine Y_go 600 ?_; dsimp only[go_sem,reduceAdd,Nat.reduceBEq,Int.reduceToNat])
 have fin:∀ F H b,denAll H F [2]=some [.bool b]→b=nameB s→RetG (cxOf Tryz.prog Tryz.f20 K20 T20 R) ⟨w,w.heap.size,[],67,[]⟩ { F:=F,H:=H }:=fun F H b hd hb =>
  zj03 (vs:=[.bool b]) r20 rfl hd fun W hW=>hR _ _ ⟨by rw[hb]; rfl,hW.fresh'⟩
 have hsz:(⟨⟨s⟩⟩:ByteArray).size=s.length:=zj02 s
 have hsz2:(⟨s⟩:Array UInt8).size=s.length:=rfl
 simp only[hsz,hsz2]
 match hse:s with
 | []=>exact⟨fun _=>fin _ _ false rfl rfl,fun h=>absurd h (by decide)⟩
 | c :: r =>
  have hl0:(c :: r).length=r.length+1:=rfl
  refine⟨fun h=>absurd (of_decide_eq_true h) (by omega),fun _=>⟨fun h1=>fin _ _ false rfl (nm_no (.inl (by have:=of_decide_eq_true h1; omega))).symm,fun h1=>⟨Int.le_refl _,c,by rw[ba_get]; rfl,fun h2=>fin _ _ false rfl (nm_no (.inr (.inl (by have:=of_decide_eq_true h2; omega)))).symm,fun h2=>⟨Int.le_refl _,c,by rw[ba_get]; rfl,fun h3=>fin _ _ false rfl (nm_no (.inr (.inr (by have:=of_decide_eq_true h3; omega)))).symm,fun h3=>?_⟩⟩⟩⟩
  have hy:=nm_yes (c:=c) (s:=r) (by have:=of_decide_eq_false h1; omega) (by have:=of_decide_eq_false h2; omega) (by have:=of_decide_eq_false h3; omega)
  rw[← hse] at hy hs fin ⊢
  clear h1 h2 h3
  have finF:∀ F H,denAll H F [2]=some [.bool false]→false=nameB s→RetG (cxOf Tryz.prog Tryz.f20 K20 T20 R) ⟨w,w.heap.size,[],67,[]⟩ { F:=F,H:=H }:=fun F H hd hb=>fin F H false hd hb
  refine zj09 (α:=Nat) (fun i=>i≤s.length∧(s.take i).all nmCh=true) (fun _=>⟨w,w.heap.size,[],67,[]⟩) (fun i=>{ F:=[(0,.val (.string ⟨⟨s⟩⟩)),(3,.val (.int .i64 (i:Int)))],H:=[] }) (fun i=>s.length - i) (fun _=>rfl) ?start ?round
  case start =>
   intro a W rep
   exact⟨0,⟨Nat.zero_le _,rfl⟩,rep.lq⟩
  case round =>
   rintro i ⟨hi,ht⟩ I again
   (refine Y_go 600 ?_; dsimp only[go_sem,Nat.reduceBEq])
   have hsz:(⟨⟨s⟩⟩:ByteArray).size=s.length:=zj02 s
   have hsz2:(⟨s⟩:Array UInt8).size=s.length:=rfl
   refine⟨fun hlt=>?_,fun hge=>?_⟩
   ·have hlt:i < s.length:=by have:=of_decide_eq_true hlt; omega
    have hx:s[i]? = some s[i]:=List.getElem?_eq_getElem hlt
    have hall:(s.take (i+1)).all nmCh=((s.take i).all nmCh && nmCh s[i]):=by
     rw[List.take_add_one,hx,List.all_append]; simp
    have hno:nmCh s[i]=false→nameB s=false:=fun h=>by
     rw[hy]
     have:s.all nmCh=false:=by
      rw[List.all_eq_false]
      exact⟨s[i],List.getElem_mem hlt,by rw[h]; decide⟩
     rw[this]; rfl
    generalize s[i]=d at hx hall hno
    have hi1:((i:Nat):Int).toNat=i:=by omega
    rw[hi1,ba_get]
    refine⟨by omega,d,hx,?_⟩
    have hno':¬ ((97≤d.toNat∧d.toNat≤122)∨(48≤d.toNat∧d.toNat≤57)∨d.toNat=95)→false=nameB s:=fun h=>(hno (by rw[← Bool.not_eq_true,zj3o]; exact h)).symm
    have nxt:((97≤d.toNat∧d.toNat≤122)∨(48≤d.toNat∧d.toNat≤57)∨d.toNat=95)→∀ F,leF 0 F [(0,.val (.string ⟨⟨s⟩⟩)),(3,.val (.int .i64 ((i+1:Nat):Int)))]→G (cxOf Tryz.prog Tryz.f20 K20 T20 R) ⟨w,w.heap.size,[],67,[]⟩ [.lend I,.blk 0,.code (.ref 8)] { F:=F,H:=[] }:=fun h F hF =>
     zj01 fun a W rep=>again (i+1) ⟨by omega,by rw[hall,ht,(zj3o d).2 h]; rfl⟩ (by omega) a W (rep.le hF (by (simp only[go_sem,lk,Nat.reduceBEq,reduceLT,reduceAdd] <;> try simp)))
    clear hno hall ht hy again fin hR
    repeat' (first | (refine⟨fun hA=>?_,fun hB=>?_⟩) | (refine⟨by omega,d,hx,?_⟩) | fail)
    all_goals clear hx
    all_goals simp only[decide_eq_true_eq,decide_eq_false_iff_not,bne_iff_ne,ne_eq,bne_eq_false_iff_eq,Bool.not_eq_true',Bool.not_eq_false'] at *
    all_goals first | (exact finF _ _ rfl (hno' (by omega))) | (exact⟨((i+1:Nat):Int),ArOk.to (by omega) (by omega) (by omega),nxt (by omega) _ (by (simp only[go_sem,lk,Nat.reduceBEq,reduceLT,reduceAdd] <;> try simp))⟩)
   ·have hil:i=s.length:=by have:=of_decide_eq_false hge; omega
    subst hil
    rw[List.take_length] at ht
    refine zj00 (vs:=[.string ⟨⟨s⟩⟩]) rfl (fun W hW=>word35 s W) fun v hv=>⟨.val (.bool (wordB s)),by rw[hv]; simp[Is],?_⟩
    (refine Y_go 600 ?_; dsimp only[go_sem,Nat.reduceBEq])
    exact fin _ _ (!wordB s) rfl (by rw[hy,ht]; rfl)
def toldV (s:B):B × Bool:=if Lib.hasSuffix s [58]=true then (s.dropLast,nameB s.dropLast) else ([],false)
theorem zj4f (s:B):toldL s=if (toldV s).2=true then some (toldV s).1 else none:=by
 unfold toldL toldV
 cases h:Lib.hasSuffix s [58] with
 | true=>simp
 | false=>simp
theorem suf_last (r:B) (c:UInt8):Lib.hasSuffix (r++[c]) [58]=(c == 58):=by
 unfold Lib.hasSuffix
 rw[Bool.eq_iff_iff,List.isSuffixOf_iff_suffix,beq_iff_eq]
 constructor
 ·rintro ⟨t,ht⟩
  have:=congrArg List.getLast? ht
  simp at this
  exact this.symm
 ·rintro rfl; exact⟨r,rfl⟩
theorem told11 (s:B) (w:World) (hs:s.length≤1000000):CallsV Tryz.prog 11 [.string ⟨⟨s⟩⟩] w fun v w'=>v=.tuple #[.string ⟨⟨(toldV s).1⟩⟩,.bool (toldV s).2]∧Fresh w w':=by
 refine zj05 (keep:=K11) (nt:=25) (svs:=[.val (.string ⟨⟨s⟩⟩)]) Tryz.func11 x11 n11 (by simp) (by simp[IsL,Is]) fun R hR=>?_
 (refine Y_go 600 ?_; dsimp only[go_sem,reduceAdd,Nat.reduceBEq,Int.reduceToNat])
 have fin:∀ F H (p:B × Bool),denAll H F [2,3]=some [.string ⟨⟨p.1⟩⟩,.bool p.2]→p=toldV s→RetG (cxOf Tryz.prog Tryz.f11 K11 T11 R) ⟨w,w.heap.size,[],25,[]⟩ { F:=F,H:=H }:=fun F H p hd hb =>
  zj03 (vs:=[.string ⟨⟨p.1⟩⟩,.bool p.2]) r11 rfl hd fun W hW=>hR _ _ ⟨by rw[hb]; rfl,hW.fresh'⟩
 have hsz:(⟨⟨s⟩⟩:ByteArray).size=s.length:=zj02 s
 have hsz2:(⟨s⟩:Array UInt8).size=s.length:=rfl
 simp only[hsz,hsz2]
 rcases List.eq_nil_or_concat s with rfl | ⟨r,c,rfl⟩
 ·refine⟨-1,ArOk.toSub (by simp) (by omega) (by omega),fun _=>fin _ _ ([],false) rfl rfl,fun h=>absurd h (by decide)⟩
 ·have hl:(r++[c]).length=r.length+1:=by simp
  rw[List.concat_eq_append] at *
  refine⟨(r.length:Int),ArOk.toSub (by omega) (by omega) (by omega),fun h=>absurd (of_decide_eq_true h) (by omega),fun _=>?_⟩
  rw[show ((r.length:Nat):Int).toNat=r.length by omega,ba_get]
  refine⟨by omega,c,by simp,fun h=>fin _ _ ([],false) rfl ?_,fun h=>?_⟩
  ·unfold toldV
   rw[suf_last,if_neg]
   intro e; have e:=eq_of_beq e; subst e; simp at h
  ·have hc : c = 58 := by have : (c.toNat : Int) = 58 := by simpa using h
                          exact UInt8.toNat_inj.1 (by show c.toNat=58; omega)
   subst hc
   have hx:(⟨⟨r++[58]⟩⟩:ByteArray).extract 0 r.length=⟨⟨r⟩⟩:=by rw[zj1w]; simp
   refine⟨⟨by omega,by omega,by omega⟩,?_⟩
   rw[hx]
   refine zj00 (vs:=[.string ⟨⟨r⟩⟩]) rfl (fun W hW=>name20 r W (by omega)) fun v hv=>⟨.val (.bool (nameB r)),by rw[hv]; simp[Is],?_⟩
   (refine Y_go 600 ?_; dsimp only[go_sem,Nat.reduceBEq,Int.reduceToNat])
   have htv:toldV (r++[58])=(r,nameB r):=by
    unfold toldV; rw[suf_last,if_pos (by decide),List.dropLast_concat]
   have hk:((r.length:Nat):Int).toNat=r.length:=by omega
   refine⟨⟨by omega,by omega,by omega⟩,fin _ _ (r,nameB r) (by rw[hk,hx]; rfl) htv.symm⟩
end Go.Proofs.YtaiajnehnjnadaaGreatDoor
