/- Whether what is found is clean. -/
import Derived.Test.YtgghmmjoplddbaaGreatDoorZLpCmp
import Derived.Test.YtgghmmjoplddbaaGreatDoorZOcCode
set_option linter.unusedSimpArgs false
set_option linter.unusedVariables false
set_option linter.unnecessarySimpa false
namespace Go.Proofs.YtgghmmjoplddbaaGreatDoor
open Go Go.Sx Go.Isa Go.Lint
def clnB (fs:List (Int × Int)):Bool:=fs.all fun x=>!(decide (1≤x.1) && decide (x.1≤6))
open Nat (reduceAdd reduceLT)
set_option maxRecDepth 100000
def bad6 (x:Int × Int):Bool:=decide (1≤x.1) && decide (x.1≤6)
theorem clnB_any (fs:List (Int × Int)):clnB fs=!fs.any bad6:=by
 unfold clnB
 rw[List.all_eq_not_any_not]
 congr 2
 funext x
 simp[bad6]
theorem clean60 (x:Int × Int) (w:World):CallsV Tryz.prog 29 [.agg #[.int .i64 x.1,.int .i64 x.2]] w fun v w'=>v=.bool (bad6 x)∧Fresh w w':=by
 refine zj05 (keep:=K29) (nt:=11) (svs:=[.agg [.val (.int .i64 x.1),.val (.int .i64 x.2)]]) Tryz.func29 x29 n29 (by simp) (by simp[IsL,Is]) fun R hR=>?_
 (refine Y_go 600 ?_; dsimp only[go_sem,reduceAdd,Nat.reduceBEq])
 intro g
 have h1:∀ q:Bool,q=bad6 x→∀ F H,denAll H F [2]=some [.bool q]→RetG (cxOf Tryz.prog Tryz.f29 K29 T29 R) ⟨w,w.heap.size,[],11,[]⟩ { F:=F,H:=H }:=fun q hq F H hd =>
  zj02 (vs:=[.bool q]) r29 rfl hd fun W hW=>hR _ _ ⟨by rw[hq]; rfl,hW.fresh'⟩
 refine⟨fun h=>h1 _ ?_ _ _ rfl,fun h=>h1 _ ?_ _ _ rfl⟩
 ·have h:=of_decide_eq_true h
  unfold bad6; simp[h]
 ·have h:=of_decide_eq_false h
  unfold bad6; simp; omega
theorem index88 (l:List (Int × Int)) (A:Option Addr) (c:Nat) (w:World) (hl:l.length≤maxLen) (hA:RowAt w A (fsV l)) :
  CallsV Tryz.prog 52 [.slice A l.length c,.func (.func 29) #[] #[]] w fun v w'=>(∃ n:Int,v=.int .i64 n∧decide (n≥0)=l.any bad6)∧Fresh w w':=by
 refine zj05 (keep:=K52) (nt:=19) (svs:=[.val (.slice A l.length c),.val (.func (.func 29) #[] #[])]) Tryz.func52 x52 n52 (by simp) (by simp[IsL,Is]) fun R hR=>?_
 simp only[maxLen] at hl
 (refine Y_go 600 ?_; dsimp only[go_sem,reduceAdd,Nat.reduceBEq])
 refine zj0j (α:=Nat) (fun i=>i≤l.length∧(l.take i).any bad6=false) (fun _=>⟨w,w.heap.size,[],19,[]⟩) (fun i=>{ F:=[(0,.val (.slice A l.length c)),(1,.val (.func (.func 29) #[] #[])),(7,.val (.int .i64 (l.length:Int))),(8,.val (.int .i64 (i:Int)))],H:=[] }) (fun i=>l.length - i) (fun _=>rfl) ?start ?round
 case start =>
  intro a W rep
  exact⟨0,⟨Nat.zero_le _,by simp⟩,rep.lq⟩
 case round =>
  rintro i ⟨hi,ha⟩ I again
  have hi1:((i:Nat):Int).toNat=i:=by omega
  (refine Y_go 600 ?_; dsimp only[go_sem,Nat.reduceBEq])
  refine⟨fun hlt=>?_,fun hge=>?_⟩
  ·have hlt:i < l.length:=by have:=of_decide_eq_true hlt; omega
   have hz:l[i]? = some l[i]:=List.getElem?_eq_getElem hlt
   generalize l[i]=r at hz
   have sA:=hA.isSome (j:=i*2) (by rw[zj2i]; omega)
   obtain⟨c0,c1⟩:=zj4z l i r hz
   rw[hi1]
   refine⟨⟨by omega,by omega,sA⟩,r.1,hA.cell c0,r.2,hA.cell c1,?_⟩
   have hst:(l.take (i+1)).any bad6=bad6 r:=by rw[List.take_add_one,hz,List.any_append,ha]; simp
   cases hk:bad6 r with
   | false =>
    refine zj07 (f:=29) (fst:=[]) (caps:=[]) (vs:=[.agg #[.int .i64 r.1,.int .i64 r.2]]) rfl rfl rfl (fun W hW=>clean60 r W) fun v hv=>⟨.bf,by rw[hv,hk]; simp[Is],?_⟩
    (refine Y_go 600 ?_; dsimp only[go_sem,Nat.reduceBEq])
    exact⟨((i+1:Nat):Int),ArOk.to (by omega) (by omega) (by omega),zj01 fun a W rep=>again (i+1) ⟨by omega,by rw[hst,hk]⟩ (by show _ - (i+1) < _ - i; omega) a W (rep.lq)⟩
   | true =>
    refine zj07 (f:=29) (fst:=[]) (caps:=[]) (vs:=[.agg #[.int .i64 r.1,.int .i64 r.2]]) rfl rfl rfl (fun W hW=>clean60 r W) fun v hv=>⟨.bt,by rw[hv,hk]; simp[Is],?_⟩
    (refine Y_go 600 ?_; dsimp only[go_sem,Nat.reduceBEq])
    refine zj02 (vs:=[.int .i64 (i:Int)]) r52 rfl rfl fun W hW=>hR _ _ ⟨⟨_,rfl,?_⟩,hW.fresh'⟩
    have:l.any bad6=true:=by
     rw[← List.take_append_drop (i+1) l,List.any_append,hst,hk]; simp
    rw[this]; simp
  ·have hie:i=l.length:=by have:=of_decide_eq_false hge; omega
   subst hie
   rw[List.take_length] at ha
   exact zj02 (vs:=[.int .i64 (-1)]) r52 rfl rfl fun W hW=>hR _ _ ⟨⟨_,rfl,by rw[ha]; rfl⟩,hW.fresh'⟩
theorem cont59 (l:List (Int × Int)) (A:Option Addr) (c:Nat) (w:World) (hl:l.length≤maxLen) (hA:RowAt w A (fsV l)) :
  CallsV Tryz.prog 28 [.slice A l.length c,.func (.func 29) #[] #[]] w fun v w'=>v=.bool (l.any bad6)∧Fresh w w':=by
 refine zj05 (keep:=K28) (nt:=9) (svs:=[.val (.slice A l.length c),.val (.func (.func 29) #[] #[])]) Tryz.func28 x28 n28 (by simp) (by simp[IsL,Is]) fun R hR=>?_
 (refine Y_go 600 ?_; dsimp only[go_sem,reduceAdd,Nat.reduceBEq])
 refine zj00 (vs:=[.slice A l.length c,.func (.func 29) #[] #[]]) rfl (fun W hW=>index88 l A c W hl (hA.keep hW.fresh')) fun v ⟨n,hv,hn⟩=>⟨.val (.int .i64 n),by rw[hv]; simp[Is],?_⟩
 (refine Y_go 600 ?_; dsimp only[go_sem,Nat.reduceBEq])
 refine zj02 (vs:=[.bool (l.any bad6)]) r28 rfl ?_ fun W hW=>hR _ _ ⟨rfl,hW.fresh'⟩
 show some [Value.bool (decide (n≥0))]=_
 rw[hn]
theorem zj54 (l:List (Int × Int)) (A:Option Addr) (c:Nat) (w:World) (hl:l.length≤maxLen) (hA:RowAt w A (fsV l)) :
  CallsV Tryz.prog 10 [.slice A l.length c] w fun v w'=>v=.bool (clnB l)∧Fresh w w':=by
 refine zj05 (keep:=K10) (nt:=6) (svs:=[.val (.slice A l.length c)]) Tryz.func10 x10 n10 (by simp) (by simp[IsL,Is]) fun R hR=>?_
 (refine Y_go 600 ?_; dsimp only[go_sem,reduceAdd,Nat.reduceBEq])
 refine zj00 (vs:=[.slice A l.length c,.func (.func 29) #[] #[]]) rfl (fun W hW=>cont59 l A c W hl (hA.keep hW.fresh')) fun v hv=>⟨.val (.bool (l.any bad6)),by rw[hv]; simp[Is],?_⟩
 (refine Y_go 600 ?_; dsimp only[go_sem,Nat.reduceBEq])
 refine zj02 (vs:=[.bool (clnB l)]) r10 rfl ?_ fun W hW=>hR _ _ ⟨rfl,hW.fresh'⟩
 show some [Value.bool (!(l.any bad6))]=_
 rw[clnB_any]
end Go.Proofs.YtgghmmjoplddbaaGreatDoor
