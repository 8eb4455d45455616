/- What a line says: shuntref15.One. -/
import Derived.Test.YtaiajnehnjnadaaGreatDoorMRf1
import Derived.Test.YtaiajnehnjnadaaGreatDoorMIrLaw7
import Derived.Test.YtaiajnehnjnadaaGreatDoorPrBack
set_option linter.unusedSimpArgs false
set_option linter.unusedVariables false
set_option linter.unnecessarySimpa false
namespace Go.Proofs.YtaiajnehnjnadaaGreatDoor
open Go Go.Sx Go.Isa Go.Asm
open Nat (reduceAdd reduceLT)
set_option maxRecDepth 100000
theorem last_no {s:B} (h:∀ m,m < s.length→s[m]? ≠ some 32):lastBl s=none:=by
 cases e:lastBl s with
 | none=>rfl
 | some k =>
  obtain⟨h1,h2,_⟩:=zj16 e
  exact absurd (by rw[List.getElem?_eq_getElem h1,h2]) (h k h1)
theorem last_of {s:B} {k:Nat} (hk:s[k]? = some 32) (h:∀ m,k < m→m < s.length→s[m]? ≠ some 32):lastBl s=some k:=by
 have hl:k < s.length:=(List.getElem?_eq_some_iff.1 hk).1
 cases e:lastBl s with
 | none =>
  have:=zj1e e k hl
  rw[List.getElem?_eq_getElem hl] at hk
  injection hk with hk
  exact absurd hk this
 | some j =>
  obtain⟨h1,h2,h3⟩:=zj16 e
  rcases Nat.lt_trichotomy j k with g | g | g
  ·have:=h3 k hl g
   rw[List.getElem?_eq_getElem hl] at hk
   injection hk with hk
   exact absurd hk this
  ·rw[g]
  ·exact absurd (by rw[List.getElem?_eq_getElem h1,h2]) (h j g h1)
theorem raw_head {s:B} {k:Nat} {x:In} {c:UInt8} (hp:parseL (s.take k++[32,48])=some x) (hg:goOp x.op=true) (hc:s[0]? = some c):Lib.hasPrefix s rawW=(c == 114):=by
 have ht:=(Bk.parse_said hp).1
 obtain⟨d,t,h1,h2⟩:=tgt_head hg
 obtain⟨⟨d',t',h1',hd⟩,_,_⟩:=tx_text x
 rw[ht] at h1 h2 h1'
 cases s with
 | nil=>simp at hc
 | cons a r =>
  have hc:a=c:=by simpa using hc
  subst hc
  cases k with
  | zero =>
   simp only[List.take_zero,List.nil_append,List.cons.injEq] at h1'
   rw[← h1'.1] at hd
   exact absurd hd.1 (by decide)
  | succ k =>
   rw[List.take_succ_cons,List.cons_append] at h1 h2
   injection h1 with e1 e2
   subst e1
   by_cases ha:a=114
   ·subst ha
    rw[show ((114:UInt8) == 114)=true from rfl] at h2 ⊢
    unfold Lib.hasPrefix at h2 ⊢
    rw[List.isPrefixOf_iff_prefix] at h2 ⊢
    obtain⟨q,hq⟩:=h2
    simp only[rawW,List.cons_append,List.nil_append,List.cons.injEq,true_and] at hq
    have hr:r.take k++r.drop k=r:=List.take_append_drop k r
    refine⟨r.drop 2,?_⟩
    cases hk:r.take k with
    | nil=>rw[hk] at hq; simp at hq
    | cons b m =>
     cases m with
     | nil=>rw[hk] at hq; simp at hq
     | cons b2 m =>
      rw[hk] at hq hr
      simp only[List.cons_append,List.cons.injEq] at hq
      obtain⟨e1,e2,_⟩:=hq
      rw[← hr,← e1,← e2]; rfl
   ·have hf:(a == 114)=false:=by simpa using ha
    rw[hf]
    unfold Lib.hasPrefix
    rw[← Bool.not_eq_true,List.isPrefixOf_iff_prefix]
    rintro ⟨q,hq⟩
    simp only[rawW,List.cons_append,List.cons.injEq] at hq
    exact ha hq.1.symm
theorem one14 (s:B) (w:World) (hs:s.length≤90000):CallsV Tryz.prog 14 [.string ⟨⟨s⟩⟩] w fun v w'=>v=oneV (oneL s)∧Fresh w w':=by
 refine zj05 (keep:=K14) (nt:=77) (svs:=[.val (.string ⟨⟨s⟩⟩)]) Tryz.func14 x14 n14 (by simp) (by simp[IsL,Is]) fun R hR=>?_
 (refine Y_go 600 ?_; dsimp only[go_sem,reduceAdd,Nat.reduceBEq])
 intro g
 have fin:∀ F H v1 v2 v3 o,denR H F [.cell 2 5 true,.tmp 3,.tmp 4]=some [v1,v2,v3]→.tuple #[v1,v2,v3]=oneV o→o=oneL s→RetG (cxOf Tryz.prog Tryz.f14 K14 T14 R) ⟨w,w.heap.size,[],77,[]⟩ { F:=F,H:=H }:=fun F H v1 v2 v3 o hd hv ho =>
  ret_rv (vs:=[v1,v2,v3]) r14 rfl hd fun W hW=>hR _ _ ⟨by rw[← ho,← hv]; rfl,hW.fresh'⟩
 have hsz:(⟨⟨s⟩⟩:ByteArray).size=s.length:=zj02 s
 have hsz2:(⟨s⟩:Array UInt8).size=s.length:=rfl
 cases hp:parseL s with
 | some x =>
  refine zj00 (vs:=[.string ⟨⟨s⟩⟩]) rfl (fun W hW=>parse15 s W (by omega)) fun v hv=>⟨.tup [.agg (In.sv x),.val (.int .i64 0)],by rw[hv,hp]; simp only[Is,IsL]; exact⟨_,⟨_,_,In.is _ x,⟨_,_,rfl,rfl,rfl⟩,rfl⟩,rfl⟩,?_⟩
  (refine Y_go 600 ?_; dsimp only[go_sem,In.sv,Nat.reduceBEq,reduceAdd])
  refine fun g1=>⟨fun _=>fin _ _ (In.val x) _ _ (some (x,[])) rfl rfl (by unfold oneL; rw[hp]),fun h=>absurd h (by decide)⟩
 | none =>
  refine zj00 (vs:=[.string ⟨⟨s⟩⟩]) rfl (fun W hW=>parse15 s W (by omega)) fun v hv=>⟨.tup [.agg (In.sv zeroI),.val (.int .i64 2)],by rw[hv,hp]; simp only[Is,IsL]; exact⟨_,⟨_,_,In.is _ zeroI,⟨_,_,rfl,rfl,rfl⟩,rfl⟩,rfl⟩,?_⟩
  (refine Y_go 600 ?_; dsimp only[go_sem,zeroI,In.sv,Nat.reduceBEq,reduceAdd])
  refine fun g1=>⟨fun h=>absurd h (by decide),fun _=>?_⟩
  refine⟨(s.length:Int) - 1,ArOk.toSub (by simp only[hsz,hsz2]) (by omega) (by omega),?_⟩
  refine zj09 (α:=Nat) (fun j=>j≤s.length∧∀ m,j≤m→m < s.length→s[m]? ≠ some 32) (fun _=>⟨w,w.heap.size,[],77,[]⟩) (fun j=>{ F:=[(0,.val (.string ⟨⟨s⟩⟩)),(2,.ptr 0 0),(3,.val (.string ⟨⟨[]⟩⟩)),(4,.bf),(5,.ptr 1 0),(6,.val (.int .i64 2)),(7,.val (.int .i64 ((j:Int) - 1)))],H:=[.cells g 43 [.val (.int .i64 0),.val (.int .i64 0),.val (.int .i64 0),.val (.int .i64 0),.val (.int .i64 0)],.cells g1 43 [.val (.int .i64 0),.val (.int .i64 0),.val (.int .i64 0),.val (.int .i64 0),.val (.int .i64 0)]] }) (fun j=>j) (fun _=>rfl) ?start ?round
  case start =>
   intro a W rep
   exact⟨s.length,⟨Nat.le_refl _,fun m h1 h2=>absurd h2 (by omega)⟩,rep.lq⟩
  case round =>
   rintro j ⟨hj,hno⟩ I again
   (refine Y_go 600 ?_; dsimp only[go_sem,Nat.reduceBEq,reduceAdd])
   refine⟨fun h0=>?_,fun h0=>?_⟩
   ·have h0:1≤j:=by have:=of_decide_eq_true h0; omega
    have hlt:j - 1 < s.length:=by omega
    have hx:s[j - 1]? = some s[j - 1]:=List.getElem?_eq_getElem hlt
    generalize s[j - 1]=d at hx
    have hk:((j:Int) - 1).toNat=j - 1:=by omega
    rw[hk,ba_get]
    refine⟨by omega,d,hx,fun he=>?_,fun he=>⟨fun h=>absurd (of_decide_eq_true h) (by omega),fun _=>?_⟩⟩
    ·have hd:d ≠ 32:=by intro e; subst e; simp at he
     exact⟨((j - 1:Nat):Int) - 1,ArOk.toSub (by omega) (by omega) (by omega),zj01 fun a W rep=>again (j - 1) ⟨by omega,fun m h1 h2=>by
      by_cases e:m=j - 1
      ·subst e; rw[hx]; simpa using hd
      ·exact hno m (by omega) h2⟩ (by show j - 1 < j; omega) a W (rep.lq)⟩
    ·have hd : d = 32 := by have : (d.toNat : Int) = 32 := by simpa using he
                            exact UInt8.toNat_inj.1 (by show d.toNat=32; omega)
     subst hd
     have hb:=last_of hx fun m h1 h2=>hno m (by omega) h2
     obtain⟨k,rfl⟩:∃ k,j=k+1:=⟨j - 1,by omega⟩
     rw[show k+1 - 1=k by omega] at hb hx
     have hk:k < s.length:=by omega
     have xd:(⟨⟨s⟩⟩:ByteArray).extract (k+1) (⟨s⟩:Array UInt8).size=⟨⟨s.drop (k+1)⟩⟩:=zj1v s (k+1)
     refine⟨((k+1:Nat):Int),ArOk.to (by omega) (by omega) (by omega),⟨by omega,by omega⟩,?_⟩
     rw[show ((k+1:Nat):Int).toNat=k+1 by omega]
     first | rw[xd] | rw[zj1v]
     have hdl:(s.drop (k+1)).length≤90000:=by rw[List.length_drop]; omega
     generalize hnm:s.drop (k+1)=nm at hdl
     refine zj00 (vs:=[.string ⟨⟨nm⟩⟩]) rfl (fun W hW=>name20 nm W (by omega)) fun v hv=>⟨.val (.bool (nameB nm)),by rw[hv]; simp[Is],?_⟩
     (refine Y_go 600 ?_; dsimp only[go_sem,Nat.reduceBEq,Int.reduceToNat])
     refine⟨⟨by omega,by omega,by omega⟩,?_⟩
     have hkk:(((k+1:Nat):Int) - 1).toNat=k:=by omega
     rw[hkk,zj1w]
     have htl:(s.take k).length≤90000:=by rw[List.length_take]; omega
     refine⟨by first | (rw[zj02,zj02]; simp; omega) | (simp[ByteArray.size]; omega),?_⟩
     try simp only[zj04]
     have hu:(s.take k++[UInt8.ofNat 32,UInt8.ofNat 48]).length≤90002:=by rw[List.length_append]; simp; omega
     have hone:oneL s=(if nameB nm=true then (match parseL (s.take k++[32,48]) with | some x=>if goOp x.op=true∧legalB x=true∧Lib.hasPrefix s rawW=false then some (x,nm) else none | none=>none) else none):=by
      unfold oneL; rw[hp,hb]; simp only[hnm]; rfl
     have hraw:=fun (x:In) (c:UInt8) (h1:parseL (s.take k++[32,48])=some x) (h2:goOp x.op=true) (h3:s[0]? = some c)=>raw_head h1 h2 h3
     generalize hue:s.take k++[UInt8.ofNat 32,UInt8.ofNat 48]=u at hu
     have hue:s.take k++[32,48]=u:=hue
     rw[hue] at hone hraw
     cases hq:parseL u with
     | none =>
      rw[hq] at hone
      have hone:oneL s=none:=by rw[hone]; cases nameB nm <;> rfl
      refine zj00 (vs:=[.string ⟨⟨u⟩⟩]) rfl (fun W hW=>parse15 u W (by omega)) fun v hv=>⟨.tup [.agg (In.sv zeroI),.val (.int .i64 2)],by rw[hv,hq]; simp only[Is,IsL]; exact⟨_,⟨_,_,In.is _ zeroI,⟨_,_,rfl,rfl,rfl⟩,rfl⟩,rfl⟩,?_⟩
      (refine Y_go 600 ?_; dsimp only[go_sem,zeroI,In.sv,Nat.reduceBEq,reduceAdd])
      refine zj00 (vs:=[In.val zeroI]) rfl (fun W hW=>legal13 zeroI W) fun v hv=>⟨.val (.bool (legalB zeroI)),by rw[hv]; simp[Is],?_⟩
      (refine Y_go 600 ?_; dsimp only[go_sem,Nat.reduceBEq,reduceAdd])
      refine zj00 (vs:=[.int .i64 0]) rfl (fun W hW=>goes23 0 W) fun v hv=>⟨.val (.bool (goOp 0)),by rw[hv]; simp[Is],?_⟩
      (refine Y_go 600 ?_; dsimp only[go_sem,Nat.reduceBEq,reduceAdd,Int.reduceToNat])
      have finN:∀ F H,denR H F [.cell 2 5 true,.tmp 3,.tmp 4]=some [In.val zeroI,.string ⟨⟨[]⟩⟩,.bool false]→RetG (cxOf Tryz.prog Tryz.f14 K14 T14 R) ⟨w,w.heap.size,[],77,[]⟩ { F:=F,H:=H }:=fun F H hd=>fin F H _ _ _ none hd rfl hone.symm
      exact⟨fun _=>finN _ _ rfl,fun _=>⟨fun _=>finN _ _ rfl,fun h=>absurd h (by decide)⟩⟩
     | some x =>
      rw[hq] at hone
      refine zj00 (vs:=[.string ⟨⟨u⟩⟩]) rfl (fun W hW=>parse15 u W (by omega)) fun v hv=>⟨.tup [.agg (In.sv x),.val (.int .i64 0)],by rw[hv,hq]; simp only[Is,IsL]; exact⟨_,⟨_,_,In.is _ x,⟨_,_,rfl,rfl,rfl⟩,rfl⟩,rfl⟩,?_⟩
      (refine Y_go 600 ?_; dsimp only[go_sem,In.sv,Nat.reduceBEq,reduceAdd])
      refine zj00 (vs:=[In.val x]) rfl (fun W hW=>legal13 x W) fun v hv=>⟨.val (.bool (legalB x)),by rw[hv]; simp[Is],?_⟩
      (refine Y_go 600 ?_; dsimp only[go_sem,Nat.reduceBEq,reduceAdd])
      refine zj00 (vs:=[.int .i64 x.op]) rfl (fun W hW=>goes23 x.op W) fun v hv=>⟨.val (.bool (goOp x.op)),by rw[hv]; simp[Is],?_⟩
      (refine Y_go 600 ?_; dsimp only[go_sem,Nat.reduceBEq,reduceAdd,Int.reduceToNat])
      obtain⟨c,hc⟩:∃ c,s[0]? = some c:=⟨s[0]'(by omega),List.getElem?_eq_getElem (by omega)⟩
      have finN:∀ F H,denR H F [.cell 2 5 true,.tmp 3,.tmp 4]=some [In.val zeroI,.string ⟨⟨[]⟩⟩,.bool false]→oneL s=none→RetG (cxOf Tryz.prog Tryz.f14 K14 T14 R) ⟨w,w.heap.size,[],77,[]⟩ { F:=F,H:=H }:=fun F H hd ho=>fin F H _ _ _ none hd rfl ho.symm
      refine⟨fun h1=>finN _ _ rfl (by rw[hone,if_neg (by simpa using h1)]),fun h1=>⟨fun h=>absurd h (by decide),fun _=>⟨fun h2=>finN _ _ rfl ?_,fun h2=>⟨fun h3=>finN _ _ rfl ?_,fun h3=>⟨Int.le_refl _,c,(ba_get s 0).trans hc,fun h4=>finN _ _ rfl ?_,fun h4=>fin _ _ (In.val x) (.string ⟨⟨nm⟩⟩) (.bool true) (some (x,nm)) rfl rfl ?_⟩⟩⟩⟩⟩
      ·have h2:legalB x=false:=by simpa using h2
       rw[hone]; simp[h2]
      ·have h3:goOp x.op=false:=by simpa using h3
       rw[hone]; simp[h3]
      ·have h3:goOp x.op=true:=by simpa using h3
       have hr:=hraw x c hq h3 hc
       have h4 : c = 114 := by have : (c.toNat : Int) = 114 := by simpa using h4
                               exact UInt8.toNat_inj.1 (by show c.toNat=114; omega)
       rw[hone,hr,h4]; simp
      ·have h1:nameB nm=true:=by simpa using h1
       have h2:legalB x=true:=by simpa using h2
       have h3:goOp x.op=true:=by simpa using h3
       have hr:=hraw x c hq h3 hc
       have h4:c ≠ 114:=by intro e; subst e; simp at h4
       have h4:(c == 114)=false:=by simpa using h4
       rw[hone,hr,h4]; simp[h1,h2,h3]
   ·have h0:j=0:=by have:=of_decide_eq_false h0; omega
    subst h0
    have hb:=last_no fun m hm=>hno m (by omega) hm
    exact⟨fun _=>fin _ _ (In.val zeroI) _ _ none rfl rfl (by unfold oneL; rw[hp,hb]),fun h=>absurd h (by decide)⟩
end Go.Proofs.YtaiajnehnjnadaaGreatDoor
