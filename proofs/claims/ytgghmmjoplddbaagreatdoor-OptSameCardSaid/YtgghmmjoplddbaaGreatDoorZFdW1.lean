/- opt: what is known of registers: has, regs. -/
import Derived.Test.YtgghmmjoplddbaaGreatDoorZFlDefs
import Derived.Test.YtgghmmjoplddbaaGreatDoorZDoW1
set_option linter.unusedSimpArgs false
set_option linter.unusedVariables false
set_option linter.unnecessarySimpa false
namespace Go.Proofs.YtgghmmjoplddbaaGreatDoor
open Go Go.Sx Go.Isa
open Nat (reduceAdd reduceLT)
set_option maxRecDepth 100000
def knC (o:Option Int):List Value:=[.bool o.isSome,.int .u64 (o.getD 0)]
def knV (s:List (Option Int)):List Value:=s.flatMap knC
theorem zj6j (s:List (Option Int)):(knV s).length=s.length*2:=zj2j (f:=knC) (fun _=>rfl) s
theorem zj6k {s:List (Option Int)} {i k:Nat} {o:Option Int} (h:s[i]? = some o) (hk:k < 2):(knV s)[i*2+k]? = (knC o)[k]? := by
 obtain⟨h1,h2⟩:=List.getElem?_eq_some_iff.1 h
 unfold knV
 rw[zj33 (f:=knC) (fun _=>rfl) s h1 hk,h2]
def stOk (s:List (Option Int)):Prop:=s.length=8∧∀ o ∈ s,∀ v,o=some v→isU v
theorem has145 (s:List (Option Int)) (g:Nat) (r:Int) (w:World) (hs:s.length=8) (h0:0≤r) (h1:r < 8) (hA:RowAt w (some ⟨g,0,none⟩) (knV s)) :
  CallsV Tryz.prog 109 [.int .i64 r,.pointer (some ⟨g,0,none⟩)] w fun v w'=>v=.bool (!knO s r)∧Fresh w w':=by
 refine zj03 (keep:=K109) (nt:=9) (svs:=[.val (.int .i64 r),.adr (some ⟨g,0,none⟩) 0]) Tryz.func109 x109 n109 (by simp) (by simp[IsL,Is,Addr.add]) fun R hR=>?_
 (refine Y_go 600 ?_; dsimp only[go_sem,reduceAdd,Nat.reduceBEq])
 have ho:s[r.toNat]? = some (s[r.toNat]'(by omega)):=List.getElem?_eq_getElem (by omega)
 have hk:knO s r=(s[r.toNat]'(by omega)).isSome:=by unfold knO; rw[List.getD_eq_getElem?_getD,ho]; rfl
 generalize (s[r.toNat]'(by omega))=o at ho hk
 refine⟨⟨h0,h1,rfl⟩,o.isSome,?_,o.getD 0,?_,?_⟩
 ·have:=hA.cell (nt:=9) (j:=r.toNat*2+0) (u:=.bool o.isSome) (by rw[zj6k ho (by omega)]; rfl)
  simpa using this
 ·exact hA.cell (by rw[Nat.zero_add,zj6k ho (by omega)]; rfl)
 ·refine zj01 (vs:=[.bool (!knO s r)]) r109 rfl ?_ fun W hW=>hR _ _ ⟨rfl,hW.fresh'⟩
  show some [Value.bool (o.isSome == false && (o.getD 0 == 0 && true))]=_
  rw[hk]
  cases o <;> rfl
theorem index162 (s:List (Option Int)) (g:Nat) (l:List Int) (A:Option Addr) (c:Nat) (w:World) (hs:s.length=8) (hl:l.length≤100) (hr:∀ r ∈ l,0≤r∧r < 8) (hA:RowAt w A (isV l)) (hS:RowAt w (some ⟨g,0,none⟩) (knV s)) :
  CallsV Tryz.prog 128 [.slice A l.length c,.func (.func 109) #[] #[.pointer (some ⟨g,0,none⟩)]] w fun v w'=>(∃ n:Int,v=.int .i64 n∧decide (n≥0)=l.any fun r=>!knO s r)∧Fresh w w':=by
 refine zj03 (keep:=K128) (nt:=19) (svs:=[.val (.slice A l.length c),.val (.func (.func 109) #[] #[.pointer (some ⟨g,0,none⟩)])]) Tryz.func128 x128 n128 (by simp) (by simp[IsL,Is]) fun R hR=>?_
 (refine Y_go 600 ?_; dsimp only[go_sem,reduceAdd,Nat.reduceBEq])
 refine zj08 (α:=Nat) (fun i=>i≤l.length∧(l.take i).any (fun r=>!knO s r)=false) (fun _=>⟨w,w.heap.size,[],19,[]⟩) (fun i=>{ F:=[(0,.val (.slice A l.length c)),(1,.val (.func (.func 109) #[] #[.pointer (some ⟨g,0,none⟩)])),(7,.val (.int .i64 (l.length:Int))),(8,.val (.int .i64 (i:Int)))],H:=[] }) (fun i=>l.length - i) (fun _=>rfl) ?start ?round
 case start =>
  intro a W rep
  exact⟨0,⟨Nat.zero_le _,by simp⟩,rep.lq⟩
 case round =>
  rintro i ⟨hi,ha⟩ I again
  have hi1:((i:Nat):Int).toNat=i:=by omega
  (refine Y_go 600 ?_; dsimp only[go_sem,Nat.reduceBEq])
  refine⟨fun hlt=>?_,fun hge=>?_⟩
  ·have hlt:i < l.length:=by have:=of_decide_eq_true hlt; omega
   have hz:l[i]? = some l[i]:=List.getElem?_eq_getElem hlt
   have hzr:=hr _ (List.getElem_mem hlt)
   generalize l[i]=r at hz hzr
   have sA:=hA.isSome (j:=i) (by rw[zj68]; exact hlt)
   rw[hi1]
   refine⟨⟨by omega,by omega,sA⟩,r,hA.cell (by rw[Nat.mul_one]; exact zj69 _ _ _ hz),?_⟩
   have hst:(l.take (i+1)).any (fun r=>!knO s r)=!knO s r:=by rw[zj2w hz,List.any_append,ha]; simp
   cases hk:knO s r with
   | true =>
    refine zj07 (f:=109) (fst:=[]) (caps:=[.pointer (some ⟨g,0,none⟩)]) (vs:=[.int .i64 r]) rfl rfl rfl (fun W hW=>has145 s g r W hs hzr.1 hzr.2 (hS.keep hW.fresh')) fun v hv=>⟨.bf,by rw[hv,hk]; simp[Is],?_⟩
    (refine Y_go 600 ?_; dsimp only[go_sem,Nat.reduceBEq])
    exact⟨((i+1:Nat):Int),ArOk.to (by omega) (by omega) (by omega),zj02 fun a W rep=>again (i+1) ⟨by omega,by rw[hst,hk]; rfl⟩ (by show _ - (i+1) < _ - i; omega) a W (rep.lq)⟩
   | false =>
    refine zj07 (f:=109) (fst:=[]) (caps:=[.pointer (some ⟨g,0,none⟩)]) (vs:=[.int .i64 r]) rfl rfl rfl (fun W hW=>has145 s g r W hs hzr.1 hzr.2 (hS.keep hW.fresh')) fun v hv=>⟨.bt,by rw[hv,hk]; simp[Is],?_⟩
    (refine Y_go 600 ?_; dsimp only[go_sem,Nat.reduceBEq])
    refine zj01 (vs:=[.int .i64 (i:Int)]) r128 rfl rfl fun W hW=>hR _ _ ⟨⟨_,rfl,?_⟩,hW.fresh'⟩
    have:(l.any fun r=>!knO s r)=true:=by
     rw[← List.take_append_drop (i+1) l,List.any_append,hst,hk]; simp
    rw[this]; simp
  ·have hie:i=l.length:=by have:=of_decide_eq_false hge; omega
   subst hie
   rw[List.take_length] at ha
   exact zj01 (vs:=[.int .i64 (-1)]) r128 rfl rfl fun W hW=>hR _ _ ⟨⟨_,rfl,by rw[ha]; rfl⟩,hW.fresh'⟩
theorem cont144 (s:List (Option Int)) (g:Nat) (l:List Int) (A:Option Addr) (c:Nat) (w:World) (hs:s.length=8) (hl:l.length≤100) (hr:∀ r ∈ l,0≤r∧r < 8) (hA:RowAt w A (isV l)) (hS:RowAt w (some ⟨g,0,none⟩) (knV s)) :
  CallsV Tryz.prog 108 [.slice A l.length c,.func (.func 109) #[] #[.pointer (some ⟨g,0,none⟩)]] w fun v w'=>v=.bool (l.any fun r=>!knO s r)∧Fresh w w':=by
 refine zj03 (keep:=K108) (nt:=9) (svs:=[.val (.slice A l.length c),.val (.func (.func 109) #[] #[.pointer (some ⟨g,0,none⟩)])]) Tryz.func108 x108 n108 (by simp) (by simp[IsL,Is]) fun R hR=>?_
 (refine Y_go 600 ?_; dsimp only[go_sem,reduceAdd,Nat.reduceBEq])
 refine zj00 (vs:=[.slice A l.length c,.func (.func 109) #[] #[.pointer (some ⟨g,0,none⟩)]]) rfl (fun W hW=>index162 s g l A c W hs hl hr (hA.keep hW.fresh') (hS.keep hW.fresh')) fun v ⟨n,hv,hn⟩=>⟨.val (.int .i64 n),by rw[hv]; simp[Is],?_⟩
 (refine Y_go 600 ?_; dsimp only[go_sem,Nat.reduceBEq])
 refine zj01 (vs:=[.bool (l.any fun r=>!knO s r)]) r108 rfl ?_ fun W hW=>hR _ _ ⟨rfl,hW.fresh'⟩
 show some [Value.bool (decide (n≥0))]=_
 rw[hn]
theorem st8 {s:List (Option Int)} (h:s.length=8):∃ o0 o1 o2 o3 o4 o5 o6 o7,s=[o0,o1,o2,o3,o4,o5,o6,o7]:=by
 match s,h with
 | [o0,o1,o2,o3,o4,o5,o6,o7],_=>exact⟨o0,o1,o2,o3,o4,o5,o6,o7,rfl⟩
theorem has116 (s:List (Option Int)) (l:List Int) (A:Option Addr) (c:Nat) (w:World) (hs:s.length=8) (hl:l.length≤100) (hr:∀ r ∈ l,0≤r∧r < 8) (hA:RowAt w A (isV l)) :
  CallsV Tryz.prog 89 [.agg (knV s).toArray,.slice A l.length c] w fun v w'=>v=.bool (l.all (knO s))∧Fresh w w':=by
 obtain⟨o0,o1,o2,o3,o4,o5,o6,o7,rfl⟩:=st8 hs
 refine zj03 (keep:=K89) (nt:=9) (svs:=[.agg [.val (.bool o0.isSome),.val (.int .u64 (o0.getD 0)),.val (.bool o1.isSome),.val (.int .u64 (o1.getD 0)),.val (.bool o2.isSome),.val (.int .u64 (o2.getD 0)),.val (.bool o3.isSome),.val (.int .u64 (o3.getD 0)),.val (.bool o4.isSome),.val (.int .u64 (o4.getD 0)),.val (.bool o5.isSome),.val (.int .u64 (o5.getD 0)),.val (.bool o6.isSome),.val (.int .u64 (o6.getD 0)),.val (.bool o7.isSome),.val (.int .u64 (o7.getD 0))],.val (.slice A l.length c)]) Tryz.func89 x89 n89 (by simp) (by simp[IsL,Is,knV,knC]) fun R hR=>?_
 (refine Y_go 600 ?_; dsimp only[go_sem,reduceAdd,Nat.reduceBEq])
 intro g
 refine zj00 (vs:=[.slice A l.length c,.func (.func 109) #[] #[.pointer (some ⟨g,0,none⟩)]]) rfl (fun W hW=>cont144 [o0,o1,o2,o3,o4,o5,o6,o7] g l A c W hs hl hr (hA.keep hW.fresh') (hW.cellsAt (i:=0) rfl rfl)) fun v hv=>⟨.val (.bool (l.any fun r=>!knO [o0,o1,o2,o3,o4,o5,o6,o7] r)),by rw[hv]; simp[Is],?_⟩
 (refine Y_go 600 ?_; dsimp only[go_sem,Nat.reduceBEq])
 refine zj01 (vs:=[.bool (l.all (knO [o0,o1,o2,o3,o4,o5,o6,o7]))]) r89 rfl ?_ fun W hW=>hR _ _ ⟨rfl,hW.fresh'⟩
 show some [Value.bool (!(l.any fun r=>!knO [o0,o1,o2,o3,o4,o5,o6,o7] r))]=_
 rw[List.all_eq_not_any_not]
theorem regs117 (s:List (Option Int)) (w:World) (hs:s.length=8):CallsV Tryz.prog 90 [.agg (knV s).toArray] w fun v w'=>v=.agg ((rgO s).map uV).toArray∧Fresh w w':=by
 obtain⟨o0,o1,o2,o3,o4,o5,o6,o7,rfl⟩:=st8 hs
 refine zj03 (keep:=K90) (nt:=16) (svs:=[.agg [.val (.bool o0.isSome),.val (.int .u64 (o0.getD 0)),.val (.bool o1.isSome),.val (.int .u64 (o1.getD 0)),.val (.bool o2.isSome),.val (.int .u64 (o2.getD 0)),.val (.bool o3.isSome),.val (.int .u64 (o3.getD 0)),.val (.bool o4.isSome),.val (.int .u64 (o4.getD 0)),.val (.bool o5.isSome),.val (.int .u64 (o5.getD 0)),.val (.bool o6.isSome),.val (.int .u64 (o6.getD 0)),.val (.bool o7.isSome),.val (.int .u64 (o7.getD 0))]]) Tryz.func90 x90 n90 (by simp) (by simp[IsL,Is,knV,knC]) fun R hR=>?_
 (refine Y_go 600 ?_; dsimp only[go_sem,reduceAdd,Nat.reduceBEq])
 intro g g1
 refine zj08 (α:=Nat) (fun i=>i≤8) (fun _=>⟨w,w.heap.size,[],16,[]⟩) (fun i=>{ F:=[(2,.ptr 0 0),(5,.agg [.val (.bool o0.isSome),.val (.int .u64 (o0.getD 0)),.val (.bool o1.isSome),.val (.int .u64 (o1.getD 0)),.val (.bool o2.isSome),.val (.int .u64 (o2.getD 0)),.val (.bool o3.isSome),.val (.int .u64 (o3.getD 0)),.val (.bool o4.isSome),.val (.int .u64 (o4.getD 0)),.val (.bool o5.isSome),.val (.int .u64 (o5.getD 0)),.val (.bool o6.isSome),.val (.int .u64 (o6.getD 0)),.val (.bool o7.isSome),.val (.int .u64 (o7.getD 0))]),(6,.val (.int .i64 (i:Int)))],H:=[.cells g1 24 [.val (.int .u64 (if 0 < i then o0.getD 0 else 0)),.val (.int .u64 (if 1 < i then o1.getD 0 else 0)),.val (.int .u64 (if 2 < i then o2.getD 0 else 0)),.val (.int .u64 (if 3 < i then o3.getD 0 else 0)),.val (.int .u64 (if 4 < i then o4.getD 0 else 0)),.val (.int .u64 (if 5 < i then o5.getD 0 else 0)),.val (.int .u64 (if 6 < i then o6.getD 0 else 0)),.val (.int .u64 (if 7 < i then o7.getD 0 else 0))]] }) (fun i=>8 - i) (fun _=>rfl) ?start ?round
 case start =>
  intro a W rep
  exact⟨0,Nat.zero_le _,(rep.pick [1] (by decide)).lp⟩
 case round =>
  intro i hi I again
  have hi:i≤8:=hi
  have hc:i=0∨i=1∨i=2∨i=3∨i=4∨i=5∨i=6∨i=7∨i=8:=by omega
  rcases hc with h | h | h | h | h | h | h | h | h <;> subst h
  ·(refine Y_go 600 ?_; dsimp only[go_sem,Nat.reduceBEq,reduceAdd])
   refine⟨fun _=>⟨⟨by decide,by decide⟩,[.val (.bool o0.isSome),.val (.int .u64 (o0.getD 0))],rfl,fun g2=>?_⟩,fun h=>absurd h (by decide)⟩
   dsimp only[go_sem,reduceAdd,Nat.reduceBEq]
   rw[show (0+((0:Nat):Int).toNat*1)=0 from rfl]
   dsimp only[go_sem,Nat.reduceBEq]
   exact⟨⟨by decide,by decide⟩,((0+1:Nat):Int),ArOk.to (by decide) (by decide) (by decide),zj02 fun a W rep=>again (0+1) (by decide) (by decide) a W (rep.lq)⟩
  ·(refine Y_go 600 ?_; dsimp only[go_sem,Nat.reduceBEq,reduceAdd])
   refine⟨fun _=>⟨⟨by decide,by decide⟩,[.val (.bool o1.isSome),.val (.int .u64 (o1.getD 0))],rfl,fun g2=>?_⟩,fun h=>absurd h (by decide)⟩
   dsimp only[go_sem,reduceAdd,Nat.reduceBEq]
   rw[show (0+((1:Nat):Int).toNat*1)=1 from rfl]
   dsimp only[go_sem,Nat.reduceBEq]
   exact⟨⟨by decide,by decide⟩,((1+1:Nat):Int),ArOk.to (by decide) (by decide) (by decide),zj02 fun a W rep=>again (1+1) (by decide) (by decide) a W (rep.lq)⟩
  ·(refine Y_go 600 ?_; dsimp only[go_sem,Nat.reduceBEq,reduceAdd])
   refine⟨fun _=>⟨⟨by decide,by decide⟩,[.val (.bool o2.isSome),.val (.int .u64 (o2.getD 0))],rfl,fun g2=>?_⟩,fun h=>absurd h (by decide)⟩
   dsimp only[go_sem,reduceAdd,Nat.reduceBEq]
   rw[show (0+((2:Nat):Int).toNat*1)=2 from rfl]
   dsimp only[go_sem,Nat.reduceBEq]
   exact⟨⟨by decide,by decide⟩,((2+1:Nat):Int),ArOk.to (by decide) (by decide) (by decide),zj02 fun a W rep=>again (2+1) (by decide) (by decide) a W (rep.lq)⟩
  ·(refine Y_go 600 ?_; dsimp only[go_sem,Nat.reduceBEq,reduceAdd])
   refine⟨fun _=>⟨⟨by decide,by decide⟩,[.val (.bool o3.isSome),.val (.int .u64 (o3.getD 0))],rfl,fun g2=>?_⟩,fun h=>absurd h (by decide)⟩
   dsimp only[go_sem,reduceAdd,Nat.reduceBEq]
   rw[show (0+((3:Nat):Int).toNat*1)=3 from rfl]
   dsimp only[go_sem,Nat.reduceBEq]
   exact⟨⟨by decide,by decide⟩,((3+1:Nat):Int),ArOk.to (by decide) (by decide) (by decide),zj02 fun a W rep=>again (3+1) (by decide) (by decide) a W (rep.lq)⟩
  ·(refine Y_go 600 ?_; dsimp only[go_sem,Nat.reduceBEq,reduceAdd])
   refine⟨fun _=>⟨⟨by decide,by decide⟩,[.val (.bool o4.isSome),.val (.int .u64 (o4.getD 0))],rfl,fun g2=>?_⟩,fun h=>absurd h (by decide)⟩
   dsimp only[go_sem,reduceAdd,Nat.reduceBEq]
   rw[show (0+((4:Nat):Int).toNat*1)=4 from rfl]
   dsimp only[go_sem,Nat.reduceBEq]
   exact⟨⟨by decide,by decide⟩,((4+1:Nat):Int),ArOk.to (by decide) (by decide) (by decide),zj02 fun a W rep=>again (4+1) (by decide) (by decide) a W (rep.lq)⟩
  ·(refine Y_go 600 ?_; dsimp only[go_sem,Nat.reduceBEq,reduceAdd])
   refine⟨fun _=>⟨⟨by decide,by decide⟩,[.val (.bool o5.isSome),.val (.int .u64 (o5.getD 0))],rfl,fun g2=>?_⟩,fun h=>absurd h (by decide)⟩
   dsimp only[go_sem,reduceAdd,Nat.reduceBEq]
   rw[show (0+((5:Nat):Int).toNat*1)=5 from rfl]
   dsimp only[go_sem,Nat.reduceBEq]
   exact⟨⟨by decide,by decide⟩,((5+1:Nat):Int),ArOk.to (by decide) (by decide) (by decide),zj02 fun a W rep=>again (5+1) (by decide) (by decide) a W (rep.lq)⟩
  ·(refine Y_go 600 ?_; dsimp only[go_sem,Nat.reduceBEq,reduceAdd])
   refine⟨fun _=>⟨⟨by decide,by decide⟩,[.val (.bool o6.isSome),.val (.int .u64 (o6.getD 0))],rfl,fun g2=>?_⟩,fun h=>absurd h (by decide)⟩
   dsimp only[go_sem,reduceAdd,Nat.reduceBEq]
   rw[show (0+((6:Nat):Int).toNat*1)=6 from rfl]
   dsimp only[go_sem,Nat.reduceBEq]
   exact⟨⟨by decide,by decide⟩,((6+1:Nat):Int),ArOk.to (by decide) (by decide) (by decide),zj02 fun a W rep=>again (6+1) (by decide) (by decide) a W (rep.lq)⟩
  ·(refine Y_go 600 ?_; dsimp only[go_sem,Nat.reduceBEq,reduceAdd])
   refine⟨fun _=>⟨⟨by decide,by decide⟩,[.val (.bool o7.isSome),.val (.int .u64 (o7.getD 0))],rfl,fun g2=>?_⟩,fun h=>absurd h (by decide)⟩
   dsimp only[go_sem,reduceAdd,Nat.reduceBEq]
   rw[show (0+((7:Nat):Int).toNat*1)=7 from rfl]
   dsimp only[go_sem,Nat.reduceBEq]
   exact⟨⟨by decide,by decide⟩,((7+1:Nat):Int),ArOk.to (by decide) (by decide) (by decide),zj02 fun a W rep=>again (7+1) (by decide) (by decide) a W (rep.lq)⟩
  ·(refine Y_go 600 ?_; dsimp only[go_sem,Nat.reduceBEq,reduceAdd])
   refine⟨fun h=>absurd h (by decide),fun _=>?_⟩
   exact ret_rv (vs:=[.agg ((rgO [o0,o1,o2,o3,o4,o5,o6,o7]).map uV).toArray]) r90 rfl rfl fun W hW=>hR _ _ ⟨rfl,hW.fresh'⟩
open Go.Lint
theorem zj0m (xs:List Value) (off:Nat) (us:List Value) (h:off+us.length≤xs.length) (j:Nat):(splice xs off us)[j]? = if off≤j∧j < off+us.length then us[j - off]? else xs[j]? := by
 induction us generalizing xs off with
 | nil => 
  rw[if_neg (by simp only[List.length_nil]; omega)]; rfl
 | cons v vs ih =>
  simp only[List.length_cons] at h ⊢
  show (splice (setn xs off v) (off+1) vs)[j]? = _
  rw[ih (setn xs off v) (off+1) (by rw[zj0k,List.length_set]; omega),zj0k,List.getElem?_set]
  by_cases h1:off=j
  ·subst h1
   rw[if_neg (by omega),if_pos rfl,if_pos (by omega),if_pos ⟨by omega,by omega⟩,Nat.sub_self]; rfl
  ·by_cases h2:off+1≤j∧j < off+1+vs.length
   ·rw[if_pos h2,if_pos ⟨by omega,by omega⟩]
    have:j - off=(j - (off+1))+1:=by omega
    rw[this]; rfl
   ·rw[if_neg h2,if_neg h1,if_neg (by omega)]
theorem knV_set {s:List (Option Int)} {i:Nat} {o:Option Int} (h:i < s.length):splice (knV s) (i*2) (knC o)=knV (s.set i o):=by
 apply List.ext_getElem?
 intro j
 rw[zj0m _ _ _ (by rw[zj6j]; simp[knC]; omega)]
 have hc:(knC o).length=2:=rfl
 rw[hc]
 rcases Nat.lt_or_ge j (s.length*2) with hj | hj
 ·obtain⟨q,r,hr,rfl⟩:∃ q r,r < 2∧j=q*2+r:=⟨j / 2,j % 2,Nat.mod_lt _ (by omega),by omega⟩
  have hq:q < s.length:=by omega
  have hqe:s[q]? = some s[q]:=List.getElem?_eq_getElem hq
  by_cases e:i=q
  ·subst e
   have h2:(s.set i o)[i]? = some o:=by rw[List.getElem?_set]; simp[h]
   rw[if_pos ⟨by omega,by omega⟩,zj6k h2 hr]
   congr 1; omega
  ·have h2:(s.set i o)[q]? = some s[q]:=by rw[List.getElem?_set,if_neg e]; exact hqe
   rw[if_neg (by omega),zj6k h2 hr,zj6k hqe hr]
 ·rw[if_neg (by omega),List.getElem?_eq_none (by rw[zj6j]; exact hj),List.getElem?_eq_none (by rw[zj6j,List.length_set]; exact hj)]
theorem goK_brG (x:In):(goK x == 2)=brG x:=by
 unfold goK brG
 by_cases h:legalB x=true∧0≤x.imm∧x.imm≤1024
 ·rw[if_pos h,h.1,decide_eq_true h.2.1,decide_eq_true h.2.2]
  by_cases h1:x.op=13
  ·rw[if_pos h1,h1]; rfl
  ·rw[if_neg h1]
   by_cases h2:14≤x.op∧x.op≤16
   ·rw[if_pos h2,decide_eq_true h2.1,decide_eq_true h2.2]; rfl
   ·rw[if_neg h2]
    have:(decide (14≤x.op) && decide (x.op≤16))=false:=by
     rw[Bool.and_eq_false_iff]; simp; omega
    rw[this]; rfl
 ·rw[if_neg h]
  have:(legalB x && (decide (0≤x.imm) && decide (x.imm≤1024)))=false:=by
   cases hl:legalB x with
   | false=>rfl
   | true =>
    rw[Bool.true_and,Bool.and_eq_false_iff]; simp
    rw[hl] at h; simp at h; omega
  rw[this]; rfl
theorem do_isU {x:In} {r:List Int} {pc:Int} (hr:∀ n ∈ r,isU n) (hop:2≤x.op∧x.op≤10):isU (doB x r pc).value:=by
 have hz:isU 0:=by unfold isU; omega
 have hrg:∀ n,isU (rg r n):=by
  intro n
  unfold rg
  rw[List.getD_eq_getElem?_getD]
  cases h:r[(n % 8).toNat]? with
  | none=>exact hz
  | some v=>exact hr _ (List.mem_of_getElem? h)
 have hw:∀ n,isU (w64 n):=fun n=>by unfold isU w64; omega
 have hsh:∀ a:Int,∀ k:Nat,isU a→isU (a / 2 ^ k):=fun a k h=>by
  unfold isU at *
  have hp:(0:Int) < 2 ^ k:=Int.pow_pos (by omega)
  refine⟨Int.ediv_nonneg h.1 (Int.le_of_lt hp),?_⟩
  have:=Int.ediv_le_self (2 ^ k) h.1
  omega
 unfold doB
 split
 ·have h:x.op=2∨x.op=3∨x.op=4∨x.op=5∨x.op=6∨x.op=7∨x.op=8∨x.op=9∨x.op=10:=by omega
  unfold doE
  rcases h with h | h | h | h | h | h | h | h | h <;> simp only[h] <;> simp <;> first | exact hw _ | exact hrg _ | exact hsh _ _ (hrg _)
 ·exact hz
theorem conv_sgn {v:Int} (h:isU v):ConvOk .i64 v (sgnU v):=by
 unfold isU at h
 show _=IntKind.wrap .i64 v
 have e:IntKind.wrap .i64 v=(v+9223372036854775808) % 18446744073709551616 - 9223372036854775808:=by
  simp[IntKind.wrap,IntKind.bits,IntKind.signed]
  split <;> omega
 rw[e]; unfold sgnU
 split <;> omega
theorem knV_st {s:List (Option Int)} {i:Nat} {b:Bool} {v:Int} {o:Option Int} (h:i < s.length) (ho:knC o=[.bool b,.int .u64 v]):setn (setn (knV s) (0+i*2) (.bool b)) (0+i*2+1) (.int .u64 v)=knV (s.set i o):=by
 rw[← knV_set h,ho,Nat.zero_add]; rfl
theorem rgO_U {s:List (Option Int)} (h:stOk s):∀ n ∈ rgO s,isU n:=by
 intro n hn
 unfold rgO at hn
 obtain⟨o,ho,rfl⟩:=List.mem_map.1 hn
 cases o with
 | none=>simp[isU]
 | some v=>exact h.2 _ ho v rfl
theorem fold83 {E0:Env} {W:World} (x:In) (s:List (Option Int)) (p:Nat) (g:Nat) (hp:p < 1024) (hs:stOk s) (hG:RowE E0 (some ⟨0,0,none⟩) shL) (hW:HeapOk E0 [.row g 127 (knV s)] W) :
  CallsV Tryz.prog 60 [.pointer (some ⟨g,0,none⟩),In.val x,.int .i64 (p:Int)] W fun v W'=>v=In.val (foldI x s p).1∧HeapOk E0 [.row g 127 (knV (foldI x s p).2)] W':=by
 obtain⟨b0,N,st,nt0,mk0⟩:=E0
 refine zj0j (keep:=K60) (nt:=125) (svs:=[.ptr 0 0,.agg (In.sv x),.val (.int .i64 (p:Int))]) Tryz.func60 x60 n60 (by simp) hW ?_ fun R hR=>?_
 ·simp only[IsL,Is,blk,nth]
  exact⟨_,_,⟨_,rfl,rfl⟩,⟨_,_,In.is _ x,⟨_,_,rfl,rfl,rfl⟩,rfl⟩,rfl⟩
 have fin:∀ (F:List (Nat × SV)) (s':List (Option Int)) (y:In) (r:List SO),denR (.row g 127 (knV s') :: r) F [RV.cell 6 5 true]=some [In.val y]→y=(foldI x s p).1→s'=(foldI x s p).2→RetG (cxOf Tryz.prog Tryz.f60 K60 T60 R) ⟨b0,N,st,125,[]⟩ { F:=F,H:=.row g 127 (knV s') :: r }:=by
  intro F s' y r hd hy hs'
  subst hy; subst hs'
  refine ret_rv (vs:=[In.val (foldI x s p).1]) r60 rfl hd fun W hW=>hR _ _ ⟨rfl,?_⟩
  have h1:HeapOk ⟨b0,N,st,125,[]⟩ [.row g 127 (knV (foldI x s p).2)] W:=HeapOk.pre (H':=[.row g 127 (knV (foldI x s p).2)]) (r:=r) hW (by intro e he; simp only[List.mem_singleton] at he; subst he; rfl)
  exact HeapOk.env (E:=⟨b0,N,st,125,[]⟩) (E':=⟨b0,N,st,nt0,mk0⟩) rfl rfl rfl h1
 have hGW:∀ {H:List SO} (W:World),HeapOk ⟨b0,N,st,125,[]⟩ H W→ShAt W:=fun W hW=>hG.at (HeapOk.env (E:=⟨b0,N,st,125,[]⟩) (E':=⟨b0,N,st,nt0,mk0⟩) rfl rfl rfl hW)
 (refine Y_go 600 ?_; dsimp only[go_sem,In.sv,reduceAdd,Nat.reduceBEq])
 intro g1 g2
 cases hb:legalB x with
 | false =>
  have hf:foldI x s p=(x,s):=by unfold foldI; rw[hb]; rfl
  refine zj00 (vs:=[In.val x]) rfl (fun W hW=>zj19 x W (hGW W hW)) fun v hv=>⟨.bf,by rw[hv,hb]; simp[Is],?_⟩
  (refine Y_go 600 ?_; dsimp only[go_sem,Nat.reduceBEq,reduceAdd])
  exact fin _ s x _ rfl (by rw[hf]) (by rw[hf])
 | true =>
  refine zj00 (vs:=[In.val x]) rfl (fun W hW=>zj19 x W (hGW W hW)) fun v hv=>⟨.bt,by rw[hv,hb]; simp[Is],?_⟩
  (refine Y_go 600 ?_; dsimp only[go_sem,Nat.reduceBEq,reduceAdd])
  obtain⟨la,lb,lc⟩:=zj41 hb
  obtain⟨o0,o1,o2,o3,o4,o5,o6,o7,rfl⟩:=st8 hs.1
  have hU:=rgO_U hs
  have hGk:∀ {H:List SO} (W:World),HeapOk ⟨b0,N,st,125,[]⟩ H W→ShAt W:=hGW
  have hrow:∀ {H:List SO} {W:World} {g3:Nat} {a b:Int},HeapOk ⟨b0,N,st,125,[]⟩ H W→nth H 3=some (.cells g3 3 [.val (.int .i64 a),.val (.int .i64 b)])→RowAt W (some ⟨g3,0,none⟩) (isV [a,b]):=fun hW hi=>hW.cellsAt hi rfl
  cases hbr:brG x with
  | true =>
   have hgk:(goK x == 2)=true:=by rw[goK_brG,hbr]
   have hop:14≤x.op∧x.op≤16:=by
    unfold brG at hbr
    simp only[Bool.and_eq_true,decide_eq_true_eq] at hbr
    exact hbr.2
   have la:=la (.inr hop)
   have lb:=lb (.inr hop)
   refine zj00 (vs:=[In.val x]) rfl (fun W hW=>goes84 x W (hGW W hW)) fun v hv=>⟨.tup [.val (.bool (goK x == 1)),.bt],by rw[hv,hgk]; simp[Is,IsL],?_⟩
   (refine Y_go 600 ?_; dsimp only[go_sem,Nat.reduceBEq,reduceAdd,Nat.reduceMul])
   intro g3
   refine⟨_,rfl,_,rfl,_,rfl,_,rfl,_,rfl,_,rfl,_,rfl,_,rfl,_,rfl,_,rfl,_,rfl,_,rfl,_,rfl,_,rfl,_,rfl,_,rfl,fun g4=>?_⟩
   have hfo:foldI x [o0,o1,o2,o3,o4,o5,o6,o7] p=if knO [o0,o1,o2,o3,o4,o5,o6,o7] x.a && knO [o0,o1,o2,o3,o4,o5,o6,o7] x.b then (⟨13,0,0,0,(doB x (rgO [o0,o1,o2,o3,o4,o5,o6,o7]) p).next⟩,[o0,o1,o2,o3,o4,o5,o6,o7]) else (x,[o0,o1,o2,o3,o4,o5,o6,o7]):=by
    unfold foldI
    rw[hb,hbr,if_neg (by simp),if_pos rfl]
   have hall:([x.a,x.b]:List Int).all (knO [o0,o1,o2,o3,o4,o5,o6,o7])=(knO [o0,o1,o2,o3,o4,o5,o6,o7] x.a && knO [o0,o1,o2,o3,o4,o5,o6,o7] x.b):=by simp
   cases hk:knO [o0,o1,o2,o3,o4,o5,o6,o7] x.a && knO [o0,o1,o2,o3,o4,o5,o6,o7] x.b with
   | false =>
    rw[hk,if_neg (by simp)] at hfo
    refine zj00 (vs:=[.agg (knV [o0,o1,o2,o3,o4,o5,o6,o7]).toArray,.slice (some ⟨g4,0,none⟩) 2 2]) rfl (fun W hW=>has116 [o0,o1,o2,o3,o4,o5,o6,o7] [x.a,x.b] (some ⟨g4,0,none⟩) 2 W rfl (by simp) (by simp; omega) (hW.cellsAt (i:=4) rfl rfl)) fun v hv=>⟨.bf,by rw[hv,hall,hk]; simp[Is],?_⟩
    (refine Y_go 600 ?_; dsimp only[go_sem,Nat.reduceBEq,reduceAdd])
    exact fin _ [o0,o1,o2,o3,o4,o5,o6,o7] x _ rfl (by rw[hfo]) (by rw[hfo])
   | true =>
    rw[hk,if_pos rfl] at hfo
    refine zj00 (vs:=[.agg (knV [o0,o1,o2,o3,o4,o5,o6,o7]).toArray,.slice (some ⟨g4,0,none⟩) 2 2]) rfl (fun W hW=>has116 [o0,o1,o2,o3,o4,o5,o6,o7] [x.a,x.b] (some ⟨g4,0,none⟩) 2 W rfl (by simp) (by simp; omega) (hW.cellsAt (i:=4) rfl rfl)) fun v hv=>⟨.bt,by rw[hv,hall,hk]; simp[Is],?_⟩
    (refine Y_go 600 ?_; dsimp only[go_sem,Nat.reduceBEq,reduceAdd])
    refine⟨_,rfl,_,rfl,_,rfl,_,rfl,_,rfl,_,rfl,_,rfl,_,rfl,_,rfl,_,rfl,_,rfl,_,rfl,_,rfl,_,rfl,_,rfl,_,rfl,?_⟩
    refine zj00 (vs:=[.agg (knV [o0,o1,o2,o3,o4,o5,o6,o7]).toArray]) rfl (fun W hW=>regs117 [o0,o1,o2,o3,o4,o5,o6,o7] W rfl) fun v hv=>⟨.agg [.val (.int .u64 (o0.getD 0)),.val (.int .u64 (o1.getD 0)),.val (.int .u64 (o2.getD 0)),.val (.int .u64 (o3.getD 0)),.val (.int .u64 (o4.getD 0)),.val (.int .u64 (o5.getD 0)),.val (.int .u64 (o6.getD 0)),.val (.int .u64 (o7.getD 0))],by rw[hv]; simp[Is,IsL,rgO,uV],?_⟩
    (refine zj1f (by dsimp only[go_sem,Nat.reduceBEq,reduceAdd]; exact⟨rfl,zj06 rfl⟩) ?_; refine Y_go 600 ?_; dsimp only[go_sem])
    refine zj00 (vs:=[In.val x,.agg ((rgO [o0,o1,o2,o3,o4,o5,o6,o7]).map uV).toArray,.int .i64 (p:Int)]) rfl (fun W hW=>do24 x (rgO [o0,o1,o2,o3,o4,o5,o6,o7]) p W (hGW W hW) rfl hU) fun v hv=>⟨Ef.sv (doB x (rgO [o0,o1,o2,o3,o4,o5,o6,o7]) p),by rw[hv]; exact Ef.is _ _,?_⟩
    generalize doB x (rgO [o0,o1,o2,o3,o4,o5,o6,o7]) p=e at hfo
    simp only[Ef.sv]
    (refine Y_go 600 ?_; dsimp only[go_sem,Nat.reduceBEq,reduceAdd])
    exact fin _ [o0,o1,o2,o3,o4,o5,o6,o7] ⟨13,0,0,0,e.next⟩ _ rfl (by rw[hfo]) (by rw[hfo])
  | false =>
   have hgk:(goK x == 2)=false:=by rw[goK_brG,hbr]
   refine zj00 (vs:=[In.val x]) rfl (fun W hW=>goes84 x W (hGW W hW)) fun v hv=>⟨.tup [.val (.bool (goK x == 1)),.bf],by rw[hv,hgk]; simp[Is,IsL],?_⟩
   (refine Y_go 600 ?_; dsimp only[go_sem,Nat.reduceBEq,reduceAdd,Nat.reduceMul,Int.reduceToNat,Nat.reduceSub])
   intro g3
   have post:∀ hb',hb'=foldK x [o0,o1,o2,o3,o4,o5,o6,o7]→2≤x.op→x.op≤10→G (cxOf Tryz.prog Tryz.f60 K60 T60 R) ⟨b0,N,st,125,[]⟩ [.ops [⟨some 84,none,.k (.not (.tmp 83))⟩],.code (.cond (.tmp 84) (.ref 14) .skip),.code (.ref 20)] { F:=[(83,bsv hb'),(0,.ptr 0 0),(2,.val (.int .i64 (p:Int))),(4,.ptr 1 0),(6,.ptr 2 0)],H:=[.row g 127 (knV [o0,o1,o2,o3,o4,o5,o6,o7]),.cells g1 47 [.val (.int .i64 x.op),.val (.int .i64 x.a),.val (.int .i64 x.b),.val (.int .i64 x.c),.val (.int .i64 x.imm)],.cells g2 47 [.val (.int .i64 0),.val (.int .i64 0),.val (.int .i64 0),.val (.int .i64 0),.val (.int .i64 0)],.cells g3 3 [.val (.int .i64 x.b),.val (.int .i64 x.c)]] }:=by
    intro hb' hfk ho2 ho10
    have la:=la (.inl ⟨ho2,by omega⟩)
    have hfo:foldI x [o0,o1,o2,o3,o4,o5,o6,o7] p=if foldK x [o0,o1,o2,o3,o4,o5,o6,o7] then (if x.op ≠ 2∧smallU (doB x (rgO [o0,o1,o2,o3,o4,o5,o6,o7]) p).value=true then ⟨2,x.a,0,0,sgnU (doB x (rgO [o0,o1,o2,o3,o4,o5,o6,o7]) p).value⟩ else x,([o0,o1,o2,o3,o4,o5,o6,o7]:List (Option Int)).set x.a.toNat (some (doB x (rgO [o0,o1,o2,o3,o4,o5,o6,o7]) p).value)) else (x,([o0,o1,o2,o3,o4,o5,o6,o7]:List (Option Int)).set x.a.toNat none):=by
     unfold foldI
     rw[hb,hbr]
     rw[if_neg (by simp),if_neg (by simp),if_neg (by omega),if_neg (by omega)]
    have bda:(0:Int)≤x.a∧x.a < ((8:Nat):Int):=⟨la.1,la.2⟩
    have lba:0+x.a.toNat*2+2≤(knV [o0,o1,o2,o3,o4,o5,o6,o7]).length:=by rw[zj6j]; simp only[List.length_cons,List.length_nil]; omega
    cases hb' with
    | false =>
     simp only[bsv]
     (refine Y_go 600 ?_; dsimp only[go_sem,Nat.reduceBEq,reduceAdd])
     rw[← hfk] at hfo
     refine⟨bda,lba,?_⟩
     have ek:=knV_st (s:=[o0,o1,o2,o3,o4,o5,o6,o7]) (i:=x.a.toNat) (b:=false) (v:=0) (o:=none) (by simp; omega) rfl
     rw[ek]
     exact fin _ (([o0,o1,o2,o3,o4,o5,o6,o7]:List (Option Int)).set x.a.toNat none) x _ rfl (by rw[hfo]; rfl) (by rw[hfo]; rfl)
    | true =>
     simp only[bsv]
     (refine Y_go 600 ?_; dsimp only[go_sem,Nat.reduceBEq,reduceAdd])
     rw[← hfk] at hfo
     refine⟨_,rfl,_,rfl,_,rfl,_,rfl,_,rfl,_,rfl,_,rfl,_,rfl,_,rfl,_,rfl,_,rfl,_,rfl,_,rfl,_,rfl,_,rfl,_,rfl,?_⟩
     refine zj00 (vs:=[.agg (knV [o0,o1,o2,o3,o4,o5,o6,o7]).toArray]) rfl (fun W hW=>regs117 [o0,o1,o2,o3,o4,o5,o6,o7] W rfl) fun v hv=>⟨.agg [.val (.int .u64 (o0.getD 0)),.val (.int .u64 (o1.getD 0)),.val (.int .u64 (o2.getD 0)),.val (.int .u64 (o3.getD 0)),.val (.int .u64 (o4.getD 0)),.val (.int .u64 (o5.getD 0)),.val (.int .u64 (o6.getD 0)),.val (.int .u64 (o7.getD 0))],by rw[hv]; simp[Is,IsL,rgO,uV],?_⟩
     (refine zj1f (by dsimp only[go_sem,Nat.reduceBEq,reduceAdd]; exact⟨rfl,zj06 rfl⟩) ?_; refine Y_go 600 ?_; dsimp only[go_sem])
     have hvU:=do_isU (x:=x) (r:=rgO [o0,o1,o2,o3,o4,o5,o6,o7]) (pc:=(p:Int)) hU ⟨ho2,ho10⟩
     refine zj00 (vs:=[In.val x,.agg ((rgO [o0,o1,o2,o3,o4,o5,o6,o7]).map uV).toArray,.int .i64 (p:Int)]) rfl (fun W hW=>do24 x (rgO [o0,o1,o2,o3,o4,o5,o6,o7]) p W (hGW W hW) rfl hU) fun v hv=>⟨Ef.sv (doB x (rgO [o0,o1,o2,o3,o4,o5,o6,o7]) p),by rw[hv]; exact Ef.is _ _,?_⟩
     generalize doB x (rgO [o0,o1,o2,o3,o4,o5,o6,o7]) p=e at hvU hfo
     simp only[Ef.sv]
     (refine Y_go 600 ?_; dsimp only[go_sem,Nat.reduceBEq,reduceAdd])
     refine⟨bda,lba,sgnU e.value,conv_sgn hvU,?_⟩
     rw[show setn (setn (knV [o0,o1,o2,o3,o4,o5,o6,o7]) (0+x.a.toNat*2) (.bool true)) (0+x.a.toNat*2+1) (.int .u64 e.value)=knV (([o0,o1,o2,o3,o4,o5,o6,o7]:List (Option Int)).set x.a.toNat (some e.value)) from knV_st (s:=[o0,o1,o2,o3,o4,o5,o6,o7]) (i:=x.a.toNat) (b:=true) (v:=e.value) (o:=some e.value) (by simp; omega) rfl]
     have hsm:smallU e.value=(decide (sgnU e.value ≥ -2147483648) && decide (sgnU e.value≤2147483647)):=by
      unfold isU at hvU
      unfold smallU sgnU
      rw[Bool.eq_iff_iff]
      simp only[Bool.or_eq_true,Bool.and_eq_true,decide_eq_true_eq]
      split <;> omega
     rw[if_pos rfl] at hfo
     refine⟨fun hne=>⟨fun hge=>⟨fun hle=>?_,fun hle=>?_⟩,fun hge=>?_⟩,fun heq=>?_⟩
     ·exact fin _ (([o0,o1,o2,o3,o4,o5,o6,o7]:List (Option Int)).set x.a.toNat (some e.value)) ⟨2,x.a,0,0,sgnU e.value⟩ _ rfl (by rw[hfo]; exact (if_pos ⟨by simpa using hne,by rw[hsm,hge,hle]; rfl⟩).symm) (by rw[hfo])
     ·exact fin _ (([o0,o1,o2,o3,o4,o5,o6,o7]:List (Option Int)).set x.a.toNat (some e.value)) x _ rfl (by rw[hfo]; exact (if_neg (fun h=>by have:=h.2; rw[hsm,hle,Bool.and_false] at this; cases this)).symm) (by rw[hfo])
     ·exact fin _ (([o0,o1,o2,o3,o4,o5,o6,o7]:List (Option Int)).set x.a.toNat (some e.value)) x _ rfl (by rw[hfo]; exact (if_neg (fun h=>by have:=h.2; rw[hsm,hge,Bool.false_and] at this; cases this)).symm) (by rw[hfo])
     ·exact fin _ (([o0,o1,o2,o3,o4,o5,o6,o7]:List (Option Int)).set x.a.toNat (some e.value)) x _ rfl (by rw[hfo]; exact (if_neg (fun h=>h.1 (by simpa using heq))).symm) (by rw[hfo])
   have foth:(x.op < 2∨10 < x.op)→x.op ≠ 11→foldI x [o0,o1,o2,o3,o4,o5,o6,o7] p=(x,[o0,o1,o2,o3,o4,o5,o6,o7]):=fun h h2=>by
    unfold foldI
    rw[hb,hbr,if_neg (by simp),if_neg (by simp),if_neg h2,if_pos h]
   refine⟨fun h11=>?_,fun h11=>⟨fun h2=>?_,fun h2=>⟨fun h3=>?_,fun h3=>⟨fun hlo=>?_,fun hlo=>⟨fun hhi=>?_,fun hhi=>?_⟩⟩⟩⟩⟩
   ·have h11:x.op=11:=by simpa using h11
    have la:=la (.inl ⟨by omega,by omega⟩)
    have hfo:foldI x [o0,o1,o2,o3,o4,o5,o6,o7] p=(x,([o0,o1,o2,o3,o4,o5,o6,o7]:List (Option Int)).set x.a.toNat none):=by
     unfold foldI
     rw[hb,hbr,if_neg (by simp),if_neg (by simp),if_pos h11]
    refine⟨⟨la.1,la.2⟩,by rw[zj6j]; simp only[List.length_cons,List.length_nil]; omega,?_⟩
    have ek:=knV_st (s:=[o0,o1,o2,o3,o4,o5,o6,o7]) (i:=x.a.toNat) (b:=false) (v:=0) (o:=none) (by simp; omega) rfl
    rw[ek]
    exact fin _ (([o0,o1,o2,o3,o4,o5,o6,o7]:List (Option Int)).set x.a.toNat none) x _ rfl (by rw[hfo]) (by rw[hfo])
   ·have h2:x.op=2:=by simpa using h2
    refine⟨_,rfl,_,rfl,_,rfl,_,rfl,_,rfl,_,rfl,_,rfl,_,rfl,_,rfl,_,rfl,_,rfl,_,rfl,_,rfl,_,rfl,_,rfl,_,rfl,?_⟩
    refine zj00 (vs:=[.agg (knV [o0,o1,o2,o3,o4,o5,o6,o7]).toArray,.slice none 0 0]) rfl (fun W hW=>has116 [o0,o1,o2,o3,o4,o5,o6,o7] [] none 0 W rfl (by simp) (by simp) (fun j u h=>by simp[isV] at h)) fun v hv=>⟨bsv (foldK x [o0,o1,o2,o3,o4,o5,o6,o7]),by rw[hv,show foldK x [o0,o1,o2,o3,o4,o5,o6,o7]=([]:List Int).all (knO [o0,o1,o2,o3,o4,o5,o6,o7]) from by unfold foldK; rw[if_pos h2]; rfl]; cases ([]:List Int).all (knO [o0,o1,o2,o3,o4,o5,o6,o7]) <;> simp[bsv,Is],fun a W rep=>?_⟩
    simp only[putF] at rep
    have hq:=fun q (hq:q=foldK x [o0,o1,o2,o3,o4,o5,o6,o7])=>post q hq (by omega) (by omega)
    generalize foldK x [o0,o1,o2,o3,o4,o5,o6,o7]=q at rep hq
    cases q <;> exact hq _ rfl a W (rep.le (by simp only[bsv]; (simp only[go_sem,lk,Nat.reduceBEq,reduceLT,reduceAdd] <;> try simp)) (by (simp only[go_sem,lk,Nat.reduceBEq,reduceLT,reduceAdd] <;> try simp)))
   ·have h3:x.op=3:=by simpa using h3
    have lb:=lb (.inl ⟨by omega,by omega⟩)
    refine⟨⟨by decide,by decide,by decide⟩,_,rfl,_,rfl,_,rfl,_,rfl,_,rfl,_,rfl,_,rfl,_,rfl,_,rfl,_,rfl,_,rfl,_,rfl,_,rfl,_,rfl,_,rfl,_,rfl,?_⟩
    refine zj00 (vs:=[.agg (knV [o0,o1,o2,o3,o4,o5,o6,o7]).toArray,.slice (some ⟨g3,0,none⟩) 1 2]) rfl (fun W hW=>has116 [o0,o1,o2,o3,o4,o5,o6,o7] [x.b] (some ⟨g3,0,none⟩) 2 W rfl (by simp) (by simp; omega) (RowAt.pre (ys:=isV [x.c]) (hrow hW rfl))) fun v hv=>⟨bsv (foldK x [o0,o1,o2,o3,o4,o5,o6,o7]),by rw[hv,show foldK x [o0,o1,o2,o3,o4,o5,o6,o7]=([x.b]:List Int).all (knO [o0,o1,o2,o3,o4,o5,o6,o7]) from by unfold foldK; rw[if_neg (by omega),if_pos h3]; simp]; cases ([x.b]:List Int).all (knO [o0,o1,o2,o3,o4,o5,o6,o7]) <;> simp[bsv,Is],fun a W rep=>?_⟩
    simp only[putF] at rep
    have hq:=fun q (hq:q=foldK x [o0,o1,o2,o3,o4,o5,o6,o7])=>post q hq (by omega) (by omega)
    generalize foldK x [o0,o1,o2,o3,o4,o5,o6,o7]=q at rep hq
    cases q <;> exact hq _ rfl a W (rep.le (by simp only[bsv]; (simp only[go_sem,lk,Nat.reduceBEq,reduceLT,reduceAdd] <;> try simp)) (by (simp only[go_sem,lk,Nat.reduceBEq,reduceLT,reduceAdd] <;> try simp)))
   ·have hlo:=of_decide_eq_true hlo
    have h11:x.op ≠ 11:=by simpa using h11
    exact fin _ [o0,o1,o2,o3,o4,o5,o6,o7] x _ rfl (by rw[foth (.inl hlo) h11]) (by rw[foth (.inl hlo) h11])
   ·have hhi:10 < x.op:=of_decide_eq_true hhi
    have h11:x.op ≠ 11:=by simpa using h11
    exact fin _ [o0,o1,o2,o3,o4,o5,o6,o7] x _ rfl (by rw[foth (.inr hhi) h11]) (by rw[foth (.inr hhi) h11])
   ·have h2:x.op ≠ 2:=by simpa using h2
    have h3:x.op ≠ 3:=by simpa using h3
    have hlo:=of_decide_eq_false hlo
    have hhi:=of_decide_eq_false hhi
    have lb:=lb (.inl ⟨by omega,by omega⟩)
    have lc:=lc ⟨by omega,by omega⟩
    refine⟨_,rfl,_,rfl,_,rfl,_,rfl,_,rfl,_,rfl,_,rfl,_,rfl,_,rfl,_,rfl,_,rfl,_,rfl,_,rfl,_,rfl,_,rfl,_,rfl,?_⟩
    refine zj00 (vs:=[.agg (knV [o0,o1,o2,o3,o4,o5,o6,o7]).toArray,.slice (some ⟨g3,0,none⟩) 2 2]) rfl (fun W hW=>has116 [o0,o1,o2,o3,o4,o5,o6,o7] [x.b,x.c] (some ⟨g3,0,none⟩) 2 W rfl (by simp) (by simp; omega) (hrow hW rfl)) fun v hv=>⟨bsv (foldK x [o0,o1,o2,o3,o4,o5,o6,o7]),by rw[hv,show foldK x [o0,o1,o2,o3,o4,o5,o6,o7]=([x.b,x.c]:List Int).all (knO [o0,o1,o2,o3,o4,o5,o6,o7]) from by unfold foldK; rw[if_neg h2,if_neg h3]; simp]; cases ([x.b,x.c]:List Int).all (knO [o0,o1,o2,o3,o4,o5,o6,o7]) <;> simp[bsv,Is],fun a W rep=>?_⟩
    simp only[putF] at rep
    have hq:=fun q (hq:q=foldK x [o0,o1,o2,o3,o4,o5,o6,o7])=>post q hq (by omega) (by omega)
    generalize foldK x [o0,o1,o2,o3,o4,o5,o6,o7]=q at rep hq
    cases q <;> exact hq _ rfl a W (rep.le (by simp only[bsv]; (simp only[go_sem,lk,Nat.reduceBEq,reduceLT,reduceAdd] <;> try simp)) (by (simp only[go_sem,lk,Nat.reduceBEq,reduceLT,reduceAdd] <;> try simp)))
end Go.Proofs.YtgghmmjoplddbaaGreatDoor
