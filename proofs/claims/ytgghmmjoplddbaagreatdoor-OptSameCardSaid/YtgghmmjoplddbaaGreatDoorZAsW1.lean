/- asm's small questions: what goes, what is a word of isa's, what is a name. -/
import Derived.Test.YtgghmmjoplddbaaGreatDoorZAIlLaw4
set_option linter.unusedSimpArgs false
set_option linter.unusedVariables false
set_option linter.unnecessarySimpa false
namespace Go.Proofs.YtgghmmjoplddbaaGreatDoor
open Go Go.Sx Go.Isa Go.Asm
open Nat (reduceAdd reduceLT)
set_option maxRecDepth 100000
theorem goes155 (op:Int) (w:World):CallsV Tryz.prog 118 [.int .i64 op] w fun v w'=>v=.bool (goOp op)∧Fresh w w':=by
 refine zj03 (keep:=K118) (nt:=17) (svs:=[.val (.int .i64 op)]) Tryz.func118 x118 n118 (by simp) (by simp[IsL,Is]) fun R hR=>?_
 (refine Y_go 600 ?_; dsimp only[go_sem,reduceAdd,Nat.reduceBEq])
 have fin:∀ F H b,denAll H F [2]=some [.bool b]→b=goOp op→RetG (cxOf Tryz.prog Tryz.f118 K118 T118 R) ⟨w,w.heap.size,[],17,[]⟩ { F:=F,H:=H }:=fun F H b hd hb =>
  zj01 (vs:=[.bool b]) r118 rfl hd fun W hW=>hR _ _ ⟨by rw[hb]; rfl,hW.fresh'⟩
 have key:∀ b,(b=true ↔ 13≤op∧op≤16)→b=goOp op:=fun b hb=>by
  rw[Bool.eq_iff_iff,hb]; unfold goOp; simp
 refine⟨fun h1=>fin _ _ _ rfl (key _ ?_),fun h1=>⟨fun h2=>fin _ _ _ rfl (key _ ?_),fun h2=>⟨fun h3=>fin _ _ _ rfl (key _ ?_),fun h3=>fin _ _ _ rfl (key _ ?_)⟩⟩⟩
 ·have h1:op=13:=by simpa using h1
  simp; omega
 ·have h2:op=14:=by simpa using h2
  simp; omega
 ·have h3:op=15:=by simpa using h3
  simp; omega
 ·have h1:op ≠ 13:=by simpa using h1
  have h2:op ≠ 14:=by simpa using h2
  have h3:op ≠ 15:=by simpa using h3
  simp; omega
theorem word_cut:∀ n:Nat,n < 18→(Lib.cut (textL (opI ((n:Int)+1))) [32]).1=wdL ((n:Int)+1):=by decide +kernel
theorem op64 {op:Int} (h:is64 op):in64 (opI op):=⟨h,by simp[opI,is64],by simp[opI,is64],by simp[opI,is64],by simp[opI,is64]⟩
theorem text_small:∀ n:Nat,n < 18→(textL (opI ((n:Int)+1))).length≤100:=by decide +kernel
theorem word152 (s:B) (w:World) (hG:ShAt w) (hT:TabAt w) (hLb:LibAt w):CallsV Tryz.prog 115 [.string ⟨⟨s⟩⟩] w fun v w'=>v=.bool (wordB s)∧Fresh w w':=by
 refine zj03 (keep:=K115) (nt:=24) (svs:=[.val (.string ⟨⟨s⟩⟩)]) Tryz.func115 x115 n115 (by simp) (by simp[IsL,Is]) fun R hR=>?_
 (refine Y_go 600 ?_; dsimp only[go_sem,reduceAdd,Nat.reduceBEq])
 have fin:∀ F H b,denAll H F [2]=some [.bool b]→b=wordB s→RetG (cxOf Tryz.prog Tryz.f115 K115 T115 R) ⟨w,w.heap.size,[],24,[]⟩ { F:=F,H:=H }:=fun F H b hd hb =>
  zj01 (vs:=[.bool b]) r115 rfl hd fun W hW=>hR _ _ ⟨by rw[hb]; rfl,hW.fresh'⟩
 refine⟨fun h1=>fin _ _ true rfl ?_,fun h1=>?_⟩
 ·have h1:decide (s=rawW)=true:=(strEq s rawW).symm.trans h1
  have h1:=of_decide_eq_true h1
  unfold wordB; rw[h1]; rfl
 have h1:decide (s=rawW)=false:=(strEq s rawW).symm.trans h1
 have h1:=of_decide_eq_false h1
 have hw : wordB s = wordN s 18 := by unfold wordB; have : (s == rawW) = false := by simpa using h1
                                      rw[this]; rfl
 refine zj08 (α:=Nat) (fun i=>i≤18∧wordN s i=false) (fun _=>⟨w,w.heap.size,[],24,[]⟩) (fun i=>{ F:=[(0,.val (.string ⟨⟨s⟩⟩)),(3,.val (.int .i64 ((i:Int)+1)))],H:=[] }) (fun i=>18 - i) (fun _=>rfl) ?start ?round
 case start =>
  intro a W rep
  exact⟨0,⟨Nat.zero_le _,rfl⟩,rep.lq⟩
 case round =>
  rintro i ⟨hi,hn⟩ I again
  (refine Y_go 600 ?_; dsimp only[go_sem,Nat.reduceBEq])
  refine⟨fun hlt=>?_,fun hge=>?_⟩
  ·have hlt:i < 18:=by have:=of_decide_eq_true hlt; omega
   refine zj00 (vs:=[In.val (opI ((i:Int)+1))]) rfl (fun W hW=>text16 (opI ((i:Int)+1)) W (op64 ⟨by omega,by omega⟩) (hG.keep hW.fresh') (hT.keep hW.fresh')) fun v hv=>⟨.val (.string ⟨⟨textL (opI ((i:Int)+1))⟩⟩),by rw[hv]; simp[Is],?_⟩
   (refine Y_go 600 ?_; dsimp only[go_sem])
   refine zj00 (vs:=[.string ⟨⟨textL (opI ((i:Int)+1))⟩⟩,.string ⟨⟨[32]⟩⟩]) rfl (fun W hW=>cutC _ [32] W (Nat.le_trans (text_small i hlt) (by omega)) (hLb.keep hW.fresh')) fun v hv=>⟨.tup [.val (.string ⟨⟨(Lib.cut (textL (opI ((i:Int)+1))) [32]).1⟩⟩),.val (.string ⟨⟨(Lib.cut (textL (opI ((i:Int)+1))) [32]).2.1⟩⟩),.val (.bool (Lib.cut (textL (opI ((i:Int)+1))) [32]).2.2)],by rw[hv]; simp[Is,IsL],?_⟩
   (refine Y_go 600 ?_; dsimp only[go_sem,Nat.reduceBEq])
   rw[word_cut i hlt]
   have hstep:wordN s (i+1)=(wordN s i || (wdL ((i:Int)+1) == s)):=rfl
   refine⟨fun h2=>fin _ _ true rfl ?_,fun h2=>⟨((i+1:Nat):Int)+1,ArOk.to (by omega) (by omega) (by omega),zj02 fun a W rep=>again (i+1) ⟨by omega,?_⟩ (by omega) a W (rep.lq)⟩⟩
   ·have h2:decide (wdL ((i:Int)+1)=s)=true:=(strEq _ _).symm.trans h2
    have h2:=of_decide_eq_true h2
    have up:∀ k m,k≤m→wordN s k=true→wordN s m=true:=by
     intro k m hkm hk
     induction m with
     | zero => have : k = 0 := by omega
               subst this; exact hk
     | succ m ih =>
      by_cases e:k=m+1
      ·subst e; exact hk
      ·simp[wordN,ih (by omega)]
    rw[hw]
    refine (up (i+1) 18 (by omega) ?_).symm
    rw[hstep,h2]; simp
   ·have h2:decide (wdL ((i:Int)+1)=s)=false:=(strEq _ _).symm.trans h2
    have h2:=of_decide_eq_false h2
    rw[hstep,hn]; simpa using h2
  ·have hil:i=18:=by have:=of_decide_eq_false hge; omega
   subst hil
   exact fin _ _ false rfl (by rw[hw,hn])
theorem ba_get (s:B) (i:Nat):(⟨⟨s⟩⟩:ByteArray)[i]? = s[i]? := by
 by_cases h:i < s.length
 ·rw[List.getElem?_eq_getElem h]
  exact getElem?_pos (⟨⟨s⟩⟩:ByteArray) i h
 ·rw[List.getElem?_eq_none (by omega)]
  exact getElem?_neg (⟨⟨s⟩⟩:ByteArray) i h
theorem nm_cons (c:UInt8) (s:B):nameB (c :: s)=(decide ((c :: s).length≤16) && decide (97≤c.toNat) && decide (c.toNat≤122) && (c :: s).all nmCh && !wordB (c :: s)):=rfl
theorem nm_no {c:UInt8} {s:B} (h:16 < (c :: s).length∨c.toNat < 97∨122 < c.toNat):nameB (c :: s)=false:=by
 rw[nm_cons]
 rcases h with h | h | h
 ·rw[decide_eq_false (by omega)]; rfl
 ·rw[decide_eq_false (p:=97≤c.toNat) (by omega)]; simp
 ·rw[decide_eq_false (p:=c.toNat≤122) (by omega)]; simp
theorem nm_yes {c:UInt8} {s:B} (h1:(c :: s).length≤16) (h2:97≤c.toNat) (h3:c.toNat≤122):nameB (c :: s)=((c :: s).all nmCh && !wordB (c :: s)):=by
 rw[nm_cons,decide_eq_true h1,decide_eq_true h2,decide_eq_true h3]
 simp
theorem nmCh_iff (d:UInt8):nmCh d=true ↔ (97≤d.toNat∧d.toNat≤122)∨(48≤d.toNat∧d.toNat≤57)∨d.toNat=95:=by
 unfold nmCh
 have:(d == 95)=decide (d.toNat=95):=by
  rw[Bool.eq_iff_iff,beq_iff_eq,decide_eq_true_eq,← UInt8.toNat_inj]; rfl
 rw[this]
 simp
 omega
theorem zj7w (s:B) (w:World) (hs:s.length≤1000000) (hG:ShAt w) (hT:TabAt w) (hLb:LibAt w):CallsV Tryz.prog 94 [.string ⟨⟨s⟩⟩] w fun v w'=>v=.bool (nameB s)∧Fresh w w':=by
 refine zj03 (keep:=K94) (nt:=53) (svs:=[.val (.string ⟨⟨s⟩⟩)]) Tryz.func94 x94 n94 (by simp) (by simp[IsL,Is]) fun R hR=>?_
 (refine Y_go 600 ?_; dsimp only[go_sem,reduceAdd,Nat.reduceBEq,Int.reduceToNat])
 have fin:∀ F H b,denAll H F [2]=some [.bool b]→b=nameB s→RetG (cxOf Tryz.prog Tryz.f94 K94 T94 R) ⟨w,w.heap.size,[],53,[]⟩ { F:=F,H:=H }:=fun F H b hd hb =>
  zj01 (vs:=[.bool b]) r94 rfl hd fun W hW=>hR _ _ ⟨by rw[hb]; rfl,hW.fresh'⟩
 have hsz:(⟨⟨s⟩⟩:ByteArray).size=s.length:=zj09 s
 have hsz2:(⟨s⟩:Array UInt8).size=s.length:=rfl
 simp only[hsz,hsz2]
 match hse:s with
 | []=>exact⟨fun _=>fin _ _ false rfl rfl,fun h=>absurd h (by decide)⟩
 | c :: r =>
  have hl0:(c :: r).length=r.length+1:=rfl
  refine⟨fun h=>absurd (of_decide_eq_true h) (by omega),fun _=>⟨fun h1=>fin _ _ false rfl (nm_no (.inl (by have:=of_decide_eq_true h1; omega))).symm,fun h1=>⟨Int.le_refl _,c,by rw[ba_get]; rfl,fun h2=>fin _ _ false rfl (nm_no (.inr (.inl (by have:=of_decide_eq_true h2; omega)))).symm,fun h2=>⟨Int.le_refl _,c,by rw[ba_get]; rfl,fun h3=>fin _ _ false rfl (nm_no (.inr (.inr (by have:=of_decide_eq_true h3; omega)))).symm,fun h3=>?_⟩⟩⟩⟩
  have hy:=nm_yes (c:=c) (s:=r) (by have:=of_decide_eq_false h1; omega) (by have:=of_decide_eq_false h2; omega) (by have:=of_decide_eq_false h3; omega)
  rw[← hse] at hy hs fin ⊢
  clear h1 h2 h3
  have finF:∀ F H,denAll H F [2]=some [.bool false]→false=nameB s→RetG (cxOf Tryz.prog Tryz.f94 K94 T94 R) ⟨w,w.heap.size,[],53,[]⟩ { F:=F,H:=H }:=fun F H hd hb=>fin F H false hd hb
  refine zj08 (α:=Nat) (fun i=>i≤s.length∧(s.take i).all nmCh=true) (fun _=>⟨w,w.heap.size,[],53,[]⟩) (fun i=>{ F:=[(0,.val (.string ⟨⟨s⟩⟩)),(24,.val (.int .i64 s.length)),(25,.val (.int .i64 (i:Int)))],H:=[] }) (fun i=>s.length - i) (fun _=>rfl) ?start ?round
  case start =>
   intro a W rep
   exact⟨0,⟨Nat.zero_le _,rfl⟩,rep.lq⟩
  case round =>
   rintro i ⟨hi,ht⟩ I again
   (refine Y_go 600 ?_; dsimp only[go_sem,Nat.reduceBEq])
   refine⟨fun hlt=>?_,fun hge=>?_⟩
   ·have hlt:i < s.length:=by have:=of_decide_eq_true hlt; omega
    have hx:s[i]? = some s[i]:=List.getElem?_eq_getElem hlt
    have hall:(s.take (i+1)).all nmCh=((s.take i).all nmCh && nmCh s[i]):=by
     rw[List.take_add_one,hx,List.all_append]; simp
    have hno:nmCh s[i]=false→nameB s=false:=fun h=>by
     rw[hy]
     have:s.all nmCh=false:=by
      rw[List.all_eq_false]
      exact⟨s[i],List.getElem_mem hlt,by rw[h]; decide⟩
     rw[this]; rfl
    generalize s[i]=d at hx hall hno
    have hi1:((i:Nat):Int).toNat=i:=by omega
    rw[hi1,ba_get]
    refine⟨by omega,d,hx,?_⟩
    have hno':¬ ((97≤d.toNat∧d.toNat≤122)∨(48≤d.toNat∧d.toNat≤57)∨d.toNat=95)→false=nameB s:=fun h=>(hno (by rw[← Bool.not_eq_true,nmCh_iff]; exact h)).symm
    have nxt:((97≤d.toNat∧d.toNat≤122)∨(48≤d.toNat∧d.toNat≤57)∨d.toNat=95)→∀ F,leF 0 F [(0,.val (.string ⟨⟨s⟩⟩)),(24,.val (.int .i64 s.length)),(25,.val (.int .i64 ((i+1:Nat):Int)))]→G (cxOf Tryz.prog Tryz.f94 K94 T94 R) ⟨w,w.heap.size,[],53,[]⟩ [.lend I,.blk 0,.code (.ref 7)] { F:=F,H:=[] }:=fun h F hF =>
     zj02 fun a W rep=>again (i+1) ⟨by omega,by rw[hall,ht,(nmCh_iff d).2 h]; rfl⟩ (by omega) a W (rep.le hF (by (simp only[go_sem,lk,Nat.reduceBEq,reduceLT,reduceAdd] <;> try simp)))
    clear hno hall ht hy hx again fin hG hT hLb hR
    repeat' (first | (refine⟨fun hA=>?_,fun hB=>?_⟩) | fail)
    all_goals simp only[decide_eq_true_eq,decide_eq_false_iff_not,bne_iff_ne,ne_eq,bne_eq_false_iff_eq] at *
    all_goals first | (exact finF _ _ rfl (hno' (by omega))) | (exact⟨((i+1:Nat):Int),ArOk.to (by omega) (by omega) (by omega),nxt (by omega) _ (by (simp only[go_sem,lk,Nat.reduceBEq,reduceLT,reduceAdd] <;> try simp))⟩)
   ·have hil:i=s.length:=by have:=of_decide_eq_false hge; omega
    subst hil
    rw[List.take_length] at ht
    refine zj00 (vs:=[.string ⟨⟨s⟩⟩]) rfl (fun W hW=>word152 s W (hG.keep hW.fresh') (hT.keep hW.fresh') (hLb.keep hW.fresh')) fun v hv=>⟨.val (.bool (wordB s)),by rw[hv]; simp[Is],?_⟩
    (refine Y_go 600 ?_; dsimp only[go_sem,Nat.reduceBEq])
    exact fin _ _ (!wordB s) rfl (by rw[hy,ht]; rfl)
def oneV (o:Option (In × B)):Value:=match o with
 | some (x,nm)=>.tuple #[In.val x,.string ⟨⟨nm⟩⟩,.bool true]
 | none=>.tuple #[In.val zeroI,.string ⟨⟨[]⟩⟩,.bool false]
theorem parse128 (s:B) (w:World) (hs:s.length≤400000) (hG:ShAt w) (hT:TabAt w) (hLb:LibAt w):CallsV Tryz.prog 95 [.string ⟨⟨s⟩⟩] w fun v w'=>v=oneV (oneL s)∧Fresh w w':=by
 refine zj03 (keep:=K95) (nt:=60) (svs:=[.val (.string ⟨⟨s⟩⟩)]) Tryz.func95 x95 n95 (by simp) (by simp[IsL,Is]) fun R hR=>?_
 (refine Y_go 600 ?_; dsimp only[go_sem,reduceAdd,Nat.reduceBEq])
 intro g
 have fin:∀ F H v1 v2 v3 o,denR H F [.cell 2 5 true,.tmp 3,.tmp 4]=some [v1,v2,v3]→.tuple #[v1,v2,v3]=oneV o→o=oneL s→RetG (cxOf Tryz.prog Tryz.f95 K95 T95 R) ⟨w,w.heap.size,[],60,[]⟩ { F:=F,H:=H }:=fun F H v1 v2 v3 o hd hv ho =>
  ret_rv (vs:=[v1,v2,v3]) r95 rfl hd fun W hW=>hR _ _ ⟨by rw[← ho,← hv]; rfl,hW.fresh'⟩
 cases hp:parseL s with
 | some x =>
  refine zj00 (vs:=[.string ⟨⟨s⟩⟩]) rfl (fun W hW=>parse14 s W (by omega) (hG.keep hW.fresh') (hT.keep hW.fresh') (hLb.keep hW.fresh')) fun v hv=>⟨.tup [.agg (In.sv x),.val (.int .i64 0)],by rw[hv,hp]; simp only[Is,IsL]; exact⟨_,⟨_,_,In.is _ x,⟨_,_,rfl,rfl,rfl⟩,rfl⟩,rfl⟩,?_⟩
  (refine Y_go 600 ?_; dsimp only[go_sem,In.sv,Nat.reduceBEq,reduceAdd])
  refine fun g1=>⟨fun _=>fin _ _ (In.val x) _ _ (some (x,[])) rfl rfl (by unfold oneL; rw[hp]),fun h=>absurd h (by decide)⟩
 | none =>
  refine zj00 (vs:=[.string ⟨⟨s⟩⟩]) rfl (fun W hW=>parse14 s W (by omega) (hG.keep hW.fresh') (hT.keep hW.fresh') (hLb.keep hW.fresh')) fun v hv=>⟨.tup [.agg (In.sv zeroI),.val (.int .i64 2)],by rw[hv,hp]; simp only[Is,IsL]; exact⟨_,⟨_,_,In.is _ zeroI,⟨_,_,rfl,rfl,rfl⟩,rfl⟩,rfl⟩,?_⟩
  (refine Y_go 600 ?_; dsimp only[go_sem,zeroI,In.sv,Nat.reduceBEq,reduceAdd])
  refine fun g1=>⟨fun h=>absurd h (by decide),fun _=>?_⟩
  have hlast:=last_lib s
  cases hb:lastBl s with
  | none =>
   rw[hb] at hlast
   refine zj00 (vs:=[.string ⟨⟨s⟩⟩,.int .u8 32]) rfl (fun W hW=>lastC s 32 W (by omega)) fun v hv=>⟨.val (.int .i64 (-1)),by rw[hv,hlast]; simp[Is],?_⟩
   (refine Y_go 600 ?_; dsimp only[go_sem,Nat.reduceBEq,reduceAdd])
   refine⟨fun _=>fin _ _ (In.val zeroI) _ _ none rfl rfl (by unfold oneL; rw[hp,hb]),fun h=>absurd h (by decide)⟩
  | some k =>
   rw[hb] at hlast
   obtain⟨hk,_,_⟩:=zj38 hb
   refine zj00 (vs:=[.string ⟨⟨s⟩⟩,.int .u8 32]) rfl (fun W hW=>lastC s 32 W (by omega)) fun v hv=>⟨.val (.int .i64 (k:Int)),by rw[hv,hlast]; simp[Is],?_⟩
   (refine Y_go 600 ?_; dsimp only[go_sem,Nat.reduceBEq,reduceAdd])
   refine⟨fun h=>absurd (of_decide_eq_true h) (by omega),fun _=>?_⟩
   have hsz:(⟨⟨s⟩⟩:ByteArray).size=s.length:=zj09 s
   have hsz2:(⟨s⟩:Array UInt8).size=s.length:=rfl
   refine⟨((k+1:Nat):Int),ArOk.to (by omega) (by omega) (by omega),⟨by omega,by simp only[hsz,hsz2]; omega⟩,?_⟩
   have hk1:((k+1:Nat):Int).toNat=k+1:=by omega
   have xd:(⟨⟨s⟩⟩:ByteArray).extract (k+1) (⟨s⟩:Array UInt8).size=⟨⟨s.drop (k+1)⟩⟩:=zj7f s (k+1)
   rw[hk1]
   first | rw[xd] | rw[zj7f]
   have hdl:(s.drop (k+1)).length≤400000:=by rw[List.length_drop]; omega
   generalize hnm:s.drop (k+1)=nm at hdl
   refine zj00 (vs:=[.string ⟨⟨nm⟩⟩]) rfl (fun W hW=>zj7w nm W (by omega) (hG.keep hW.fresh') (hT.keep hW.fresh') (hLb.keep hW.fresh')) fun v hv=>⟨.val (.bool (nameB nm)),by rw[hv]; simp[Is],?_⟩
   (refine Y_go 600 ?_; dsimp only[go_sem,Nat.reduceBEq,reduceAdd,Int.reduceToNat])
   refine⟨fun h=>fin _ _ (In.val zeroI) _ _ none rfl rfl (by
    have h:nameB nm=false:=by simpa using h
    unfold oneL; rw[hp,hb]; simp only[hnm,h]; rfl),fun h=>⟨⟨by omega,by simp only[hsz,hsz2]; omega⟩,?_⟩⟩
   have hn:nameB nm=true:=by simpa using h
   have hk2:((k:Nat):Int).toNat=k:=by omega
   rw[hk2,ext_take]
   have hcat:(⟨⟨s.take k⟩⟩:ByteArray)++⟨⟨[UInt8.ofNat 32,UInt8.ofNat 48]⟩⟩=⟨⟨s.take k++[32,48]⟩⟩:=zj1g _ _
   have htl:(s.take k++[32,48]).length≤400002:=by rw[List.length_append,List.length_take]; simp; omega
   rw[hcat]
   generalize hu:s.take k++[32,48]=u at htl
   have hone:oneL s=(match parseL u with | some x=>if goOp x.op=true∧legalB x=true∧Lib.hasPrefix s rawW=false then some (x,nm) else none | none=>none):=by
    unfold oneL; rw[hp,hb]; simp only[hnm,hn,hu,if_true]
    rfl
   refine⟨by simp[ByteArray.size]; omega,?_⟩
   cases hq:parseL u with
   | none =>
    refine zj00 (vs:=[.string ⟨⟨u⟩⟩]) rfl (fun W hW=>parse14 u W (by omega) (hG.keep hW.fresh') (hT.keep hW.fresh') (hLb.keep hW.fresh')) fun v hv=>⟨.tup [.agg (In.sv zeroI),.val (.int .i64 2)],by rw[hv,hq]; simp only[Is,IsL]; exact⟨_,⟨_,_,In.is _ zeroI,⟨_,_,rfl,rfl,rfl⟩,rfl⟩,rfl⟩,?_⟩
    (refine Y_go 600 ?_; dsimp only[go_sem,zeroI,In.sv,Nat.reduceBEq,reduceAdd])
    refine⟨fun _=>fin _ _ (In.val zeroI) _ _ none rfl rfl (by rw[hone,hq]),fun h=>absurd h (by decide)⟩
   | some x =>
    rw[hq] at hone
    refine zj00 (vs:=[.string ⟨⟨u⟩⟩]) rfl (fun W hW=>parse14 u W (by omega) (hG.keep hW.fresh') (hT.keep hW.fresh') (hLb.keep hW.fresh')) fun v hv=>⟨.tup [.agg (In.sv x),.val (.int .i64 0)],by rw[hv,hq]; simp only[Is,IsL]; exact⟨_,⟨_,_,In.is _ x,⟨_,_,rfl,rfl,rfl⟩,rfl⟩,rfl⟩,?_⟩
    (refine Y_go 600 ?_; dsimp only[go_sem,In.sv,Nat.reduceBEq,reduceAdd])
    refine⟨fun h=>absurd h (by decide),fun _=>?_⟩
    refine zj00 (vs:=[.int .i64 x.op]) rfl (fun W hW=>goes155 x.op W) fun v hv=>⟨.val (.bool (goOp x.op)),by rw[hv]; simp[Is],?_⟩
    (refine Y_go 600 ?_; dsimp only[go_sem,Nat.reduceBEq,reduceAdd])
    refine⟨fun h=>fin _ _ (In.val zeroI) _ _ none rfl rfl (by
     have h:goOp x.op=false:=by simpa using h
     rw[hone]; simp only[h]; rfl),fun h=>?_⟩
    have hgo:goOp x.op=true:=by simpa using h
    refine zj00 (vs:=[In.val x]) rfl (fun W hW=>zj19 x W (hG.keep hW.fresh')) fun v hv=>⟨.val (.bool (legalB x)),by rw[hv]; simp[Is],?_⟩
    (refine Y_go 600 ?_; dsimp only[go_sem,Nat.reduceBEq,reduceAdd])
    refine⟨fun h=>fin _ _ (In.val zeroI) _ _ none rfl rfl (by
     have h:legalB x=false:=by simpa using h
     rw[hone]; simp only[h,hgo]; rfl),fun h=>?_⟩
    have hlg:legalB x=true:=by simpa using h
    refine zj00 (vs:=[.string ⟨⟨s⟩⟩,.string ⟨⟨rawW⟩⟩]) rfl (fun W hW=>preC s rawW W) fun v hv=>⟨.val (.bool (Lib.hasPrefix s rawW)),by rw[hv]; simp[Is],?_⟩
    (refine Y_go 600 ?_; dsimp only[go_sem,Nat.reduceBEq,reduceAdd])
    refine⟨fun h=>fin _ _ (In.val zeroI) _ _ none rfl rfl (by
     rw[hone]; simp only[h,hgo,hlg]; rfl),fun h=>⟨((k+1:Nat):Int),ArOk.to (by omega) (by omega) (by omega),⟨by omega,by simp only[hsz,hsz2]; omega⟩,?_⟩⟩
    rw[hk1]
    first | rw[xd,hnm] | rw[zj7f,hnm]
    exact fin _ _ (In.val x) _ _ (some (x,nm)) rfl rfl (by rw[hone]; simp only[h,hgo,hlg]; rfl)
end Go.Proofs.YtgghmmjoplddbaaGreatDoor
