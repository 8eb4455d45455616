/- The document's lint: Look: the list at the end. -/
import Derived.Test.YtlbiogokpadaoaaGreatDoorRfMisc
set_option linter.unusedSimpArgs false
set_option linter.unusedVariables false
set_option linter.unnecessarySimpa false
namespace Go.Proofs.YtlbiogokpadaoaaGreatDoor
open Go Go.Sx Go.Isa Go.Lint
open Nat (reduceAdd reduceLT)
set_option maxRecDepth 100000
theorem zj7v (o:List Bool) (n:Nat):∀ i,(ansN o n i).length≤i
 | 0=>Nat.le_refl _
 | i+1=>by
  have:=zj7v o n i
  simp only[ansN,List.length_append]
  split <;> simp <;> omega
theorem ans_len (o:List Bool) (len:Nat):∀ n,(ans o len n).length≤n*len
 | 0=>by simp[ans]
 | n+1=>by
  have h1:=ans_len o len n
  have h2:=zj7v o (n+1) len
  simp only[ans,List.length_append,Nat.add_mul,Nat.one_mul]
  omega
structure CA where
 m:Nat
 A:Option Addr
 c:Nat
theorem lookC {l:List In} {B:Option Addr} {bc:Nat} {w:World} {R:Value→World→Prop} (hl:l.length≤1024) (g:Nat) (o:List Bool) (ho:o.length=l.length*9)
  (hR:∀ (A:Option Addr) (c:Nat) (W':World),World.ownsB W' w.heap.size 46 2 (.slice A (ans o l.length 8).length c) (ans o l.length 8).length (fsV (ans o l.length 8))→Fresh w W'→R (.tuple #[.slice A (ans o l.length 8).length c,.int .i64 0]) W')
  (F:List (Nat × SV)) (rr:List SO) (hF:leF 1 F [(0,.val (.slice B l.length bc)),(4,.own 0 0),(20,.val (.slice none 0 0)),(21,.val (.int .i64 1))]) :
  G (cxOf Tryz.prog Tryz.f95 K95 T95 R) ⟨w,w.heap.size,[],239,[]⟩ [.code (XC.ref 36).loop,.blk 12,.code (.ref 37)] { F:=F,H:=.own 180 0 9 (some ⟨g,0,none⟩) l.length l.length (bsVq o) :: rr }:=by
 refine zj04 (α:=CA) (fun y=>y.m≤8) (fun _=>⟨w,w.heap.size,[],239,[]⟩) (fun y=>{ F:=[(0,.val (.slice B l.length bc)),(4,.own 0 0),(20,.own 1 0),(21,.val (.int .i64 ((y.m+1:Nat):Int)))],H:=[.own 180 0 9 (some ⟨g,0,none⟩) l.length l.length (bsVq o),.own 46 0 2 y.A (ans o l.length y.m).length y.c (fsV (ans o l.length y.m))] }) (fun y=>8 - y.m) (fun _=>rfl) ?start ?round
 case start =>
  intro a W rep
  refine⟨⟨0,none,0⟩,by simp,?_⟩
  have rep1:=(rep.le (s':={ F:=[(0,.val (.slice B l.length bc)),(4,.own 0 0),(20,.val (.slice none 0 0)),(21,.val (.int .i64 1))],H:=[.own 180 0 9 (some ⟨g,0,none⟩) l.length l.length (bsVq o)] }) hF (by (simp only[go_sem,lk,Nat.reduceBEq,reduceLT,reduceAdd] <;> try simp))).adopt 20 46 2 rfl
  exact rep1.le (by (simp only[go_sem,lk,Nat.reduceBEq,reduceLT,reduceAdd] <;> try simp)) (by (simp only[go_sem,lk,Nat.reduceBEq,reduceLT,reduceAdd] <;> try simp); exact⟨rfl,rfl⟩)
 case round =>
  rintro ⟨m,A,c⟩ hm I again
  have hm:m≤8:=hm
  (refine Y_go 10 ?_; dsimp only[go_sem,Nat.reduceBEq,Y_0])
  refine⟨fun hlt=>?_,fun hge=>?_⟩
  ·have hlt:m < 8:=by have:=of_decide_eq_true hlt; omega
   (refine Y_go 600 ?_; dsimp only[go_sem,Nat.reduceBEq])
   have hal:(ans o l.length m).length≤8*1024:=Nat.le_trans (ans_len o l.length m) (Nat.mul_le_mul hm hl)
   refine zj04 (α:=CA) (fun y=>y.m≤l.length) (fun _=>⟨w,w.heap.size,[],239,[]⟩) (fun y=>{ F:=[(0,.val (.slice B l.length bc)),(4,.own 0 0),(20,.own 1 0),(21,.val (.int .i64 ((m+1:Nat):Int))),(22,.val (.int .i64 (y.m:Int)))],H:=[.own 180 0 9 (some ⟨g,0,none⟩) l.length l.length (bsVq o),.own 46 0 2 y.A (ans o l.length m++ansN o (m+1) y.m).length y.c (fsV (ans o l.length m++ansN o (m+1) y.m))] }) (fun y=>l.length - y.m) (fun _=>rfl) ?start2 ?round2
   case start2 =>
    intro a W rep
    refine⟨⟨0,A,c⟩,by simp,rep.le (by (simp only[go_sem,lk,Nat.reduceBEq,reduceLT,reduceAdd] <;> try simp)) ?_⟩
    simp only[ansN,List.append_nil]
    (simp only[go_sem,lk,Nat.reduceBEq,reduceLT,reduceAdd] <;> try simp)
   case round2 =>
    rintro ⟨i,A,c⟩ hi I2 again2
    have hi:i≤l.length:=hi
    have hnl:=zj7v o (m+1) i
    (refine Y_go 10 ?_; dsimp only[go_sem,Nat.reduceBEq,Y_0])
    refine⟨fun hlt2=>?_,fun hge2=>?_⟩
    ·have hlt2:i < l.length:=by have:=of_decide_eq_true hlt2; omega
     have hi1:((i:Nat):Int).toNat=i:=by omega
     have hm1:((m+1:Nat):Int).toNat=m+1:=by omega
     have hll:(ans o l.length m++ansN o (m+1) i).length≤10000:=by rw[List.length_append]; omega
     (refine Y_go 600 ?_; dsimp only[go_sem,Nat.reduceBEq,Nat.reduceMul,reduceAdd])
     rw[hi1,hm1]
     refine⟨⟨by omega,by omega⟩,⟨by omega,by omega⟩,o.getD (i*9+(m+1)) false,by rw[Nat.mul_one]; exact zj1d (by rw[ho]; omega),fun hb=>fun g1=>⟨⟨by simp only[maxLen]; omega,by omega⟩,fun A' c'=>⟨((i+1:Nat):Int),ArOk.to (by omega) (by omega) (by omega),zj00 fun a W rep=>again2 ⟨i+1,A',c'⟩ (by show i+1≤_; omega) (by show l.length - (i+1) < l.length - i; omega) a W (rep.res.le (by (simp only[go_sem,lk,Nat.reduceBEq,reduceLT,reduceAdd] <;> try simp)) ?_)⟩⟩,fun hb=>⟨((i+1:Nat):Int),ArOk.to (by omega) (by omega) (by omega),zj00 fun a W rep=>again2 ⟨i+1,A,c⟩ (by show i+1≤_; omega) (by show l.length - (i+1) < l.length - i; omega) a W (rep.res.le (by (simp only[go_sem,lk,Nat.reduceBEq,reduceLT,reduceAdd] <;> try simp)) ?_)⟩⟩
     ·have e:ansN o (m+1) (i+1)=ansN o (m+1) i++[(((m+1:Nat):Int),(i:Int))]:=by rw[ansN,if_pos hb]
      rw[e,← List.append_assoc]
      (simp only[go_sem,lk,Nat.reduceBEq,reduceLT,reduceAdd] <;> try simp)
      simp only[zj3a,List.append_assoc,List.length_append,List.length_cons,List.length_nil]; exact⟨by omega,rfl⟩
     ·have e:ansN o (m+1) (i+1)=ansN o (m+1) i:=by rw[ansN,if_neg (by rw[hb]; decide)]; simp
      rw[e]
      (simp only[go_sem,lk,Nat.reduceBEq,reduceLT,reduceAdd] <;> try simp)
    ·have hge2:i=l.length:=by have:=of_decide_eq_false hge2; omega
     subst hge2
     (refine Y_go 600 ?_; dsimp only[go_sem,Nat.reduceBEq])
     exact⟨((m+1+1:Nat):Int),ArOk.to (by omega) (by omega) (by omega),zj00 fun a W rep=>again ⟨m+1,A,c⟩ (by show m+1≤8; omega) (by show 8 - (m+1) < 8 - m; omega) a W (rep.res.le (by (simp only[go_sem,lk,Nat.reduceBEq,reduceLT,reduceAdd] <;> try simp)) (by simp only[ans]; (simp only[go_sem,lk,Nat.reduceBEq,reduceLT,reduceAdd] <;> try simp)))⟩
  ·have hge:m=8:=by have:=of_decide_eq_false hge; omega
   subst hge
   (refine Y_go 600 ?_; dsimp only[go_sem,reduceAdd,Nat.reduceBEq])
   exact zj02 (vs:=[.slice A (ans o l.length 8).length c,.int .i64 0]) r95 rfl rfl fun W' hW'=>hR A c W' (hW'.owns (i:=1) rfl) hW'.fresh'
def Col7 (l:List In) (x:In) (i r:Nat):Prop:=legalB x=true∧∃ q:Nat,q < r∧(q:Int) ∈ readsL x∧(ReachW l q ((i:Int),false)∨ReachW l q ((i:Int),true))
structure TabB (l:List In) (o1 o:List Bool) (r i:Nat):Prop where
 len:o.length=l.length*9
 same:∀ k,k % 9 ≠ 7→o.getD k false=o1.getD k false
 lo:∀ j x,j < i→l[j]? = some x→(o.getD (j*9+7) false=true ↔ Col7 l x j (r+1))
 hi:∀ j x,i≤j→l[j]? = some x→(o.getD (j*9+7) false=true ↔ Col7 l x j r)
structure TabK (l:List In) (o1 o:List Bool) (r i:Nat) (x:In) (k:Nat):Prop where
 len:o.length=l.length*9
 same:∀ k,k % 9 ≠ 7→o.getD k false=o1.getD k false
 lo:∀ j x,j < i→l[j]? = some x→(o.getD (j*9+7) false=true ↔ Col7 l x j (r+1))
 hi:∀ j x,i < j→l[j]? = some x→(o.getD (j*9+7) false=true ↔ Col7 l x j r)
 mid:o.getD (i*9+7) false=true ↔ Col7 l x i r∨(legalB x=true∧∃ q,q < k∧(readsL x)[q]? = some (r:Int)∧(ReachW l r ((i:Int),false)∨ReachW l r ((i:Int),true)))
theorem TabB.toK {l:List In} {o1 o:List Bool} {r i:Nat} {x:In} (h:TabB l o1 o r i) (hx:l[i]? = some x):TabK l o1 o r i x 0 :=
 ⟨h.len,h.same,h.lo,fun j y hj=>h.hi j y (Nat.le_of_lt hj),by rw[h.hi i x (Nat.le_refl _) hx]; simp⟩
theorem TabK.toB {l:List In} {o1 o:List Bool} {r i:Nat} {x:In} (h:TabK l o1 o r i x (readsL x).length) (hx:l[i]? = some x):TabB l o1 o r (i+1):=by
 refine⟨h.len,h.same,fun j y hj hy=>?_,fun j y hj=>h.hi j y (by omega)⟩
 by_cases e:j=i
 ·subst e
  rw[hx] at hy; injection hy with hy; subst hy
  rw[h.mid]
  unfold Col7
  constructor
  ·rintro (⟨h1,q,h2,h3⟩ | ⟨h1,q,h2,h3,h4⟩)
   ·exact⟨h1,q,by omega,h3⟩
   ·exact⟨h1,r,by omega,List.mem_of_getElem? h3,h4⟩
  ·rintro ⟨h1,q,h2,h3,h4⟩
   by_cases e:q=r
   ·subst e
    obtain⟨k,hk,hkk⟩:=List.mem_iff_getElem.1 h3
    exact .inr ⟨h1,k,hk,by rw[List.getElem?_eq_getElem hk,hkk],h4⟩
   ·exact .inl ⟨h1,q,by omega,h3,h4⟩
 ·exact h.lo j y (by omega) hy
def Mid (l:List In) (r i:Nat) (x:In) (k:Nat):Prop:=Col7 l x i r∨(legalB x=true∧∃ q,q < k∧(readsL x)[q]? = some (r:Int)∧(ReachW l r ((i:Int),false)∨ReachW l r ((i:Int),true)))
theorem zj2h {l:List In} {r i:Nat} {x:In} {k:Nat}:Mid l r i x (k+1) ↔ Mid l r i x k∨(legalB x=true∧(readsL x)[k]? = some (r:Int)∧(ReachW l r ((i:Int),false)∨ReachW l r ((i:Int),true))):=by
 unfold Mid
 constructor
 ·rintro (h | ⟨h1,q,h2,h3,h4⟩)
  ·exact .inl (.inl h)
  ·by_cases e:q=k
   ·subst e; exact .inr ⟨h1,h3,h4⟩
   ·exact .inl (.inr ⟨h1,q,by omega,h3,h4⟩)
 ·rintro ((h | ⟨h1,q,h2,h3,h4⟩) | ⟨h1,h3,h4⟩)
  ·exact .inl h
  ·exact .inr ⟨h1,q,by omega,h3,h4⟩
  ·exact .inr ⟨h1,k,by omega,h3,h4⟩
theorem zj24 {o:List Bool} {a b:Nat} {v:Bool} (h:a < o.length):(o.set a v).getD b false=if a=b then v else o.getD b false:=by
 rw[List.getD_eq_getElem?_getD,List.getElem?_set]
 split
 ·simp[h]
 ·rw[List.getD_eq_getElem?_getD]
theorem zj35 {o:List Bool} {j:Nat} {v:Bool}:setn (bsVq o) j (.bool v)=bsVq (o.set j v):=by
 unfold bsVq
 rw[zj0e,List.map_set]
theorem TabK.put {l:List In} {o1 o:List Bool} {r i:Nat} {x:In} {k:Nat} {v:Bool} (h:TabK l o1 o r i x k) (hi:i < l.length) (hv:v=true ↔ Mid l r i x (k+1)):TabK l o1 (o.set (i*9+7) v) r i x (k+1):=by
 have hlt:i*9+7 < o.length:=by rw[h.len]; omega
 refine⟨by simp[h.len],fun k hk=>?_,fun j y hj hy=>?_,fun j y hj hy=>?_,?_⟩
 ·rw[zj24 hlt,if_neg (by omega)]; exact h.same k hk
 ·rw[zj24 hlt,if_neg (by omega)]; exact h.lo j y hj hy
 ·rw[zj24 hlt,if_neg (by omega)]; exact h.hi j y hj hy
 ·rw[zj24 hlt,if_pos rfl]; exact hv
structure CB where
 r:Nat
 o:List Bool
theorem lookB {l:List In} {B:Option Addr} {bc:Nat} {w:World} {R:Value→World→Prop} (hl:l.length≤1024) (hB:RowAt w B (cellsI l)) (hG:ShAt w) (g:Nat) (o1:List Bool) (ho1:o1.length=l.length*9) (h7:∀ j,o1.getD (j*9+7) false=false)
  (next:∀ (o:List Bool),o.length=l.length*9→(∀ k,k % 9 ≠ 7→o.getD k false=o1.getD k false)→(∀ j x,l[j]? = some x→(o.getD (j*9+7) false=true ↔ Col7 l x j 8))→∀ (F:List (Nat × SV)) (rr:List SO),leF 1 F [(0,.val (.slice B l.length bc)),(4,.own 0 0),(20,.val (.slice none 0 0)),(21,.val (.int .i64 1))] →
   G (cxOf Tryz.prog Tryz.f95 K95 T95 R) ⟨w,w.heap.size,[],239,[]⟩ [.code (XC.ref 36).loop,.blk 12,.code (.ref 37)] { F:=F,H:=.own 180 0 9 (some ⟨g,0,none⟩) l.length l.length (bsVq o) :: rr })
  (F:List (Nat × SV)) (rr:List SO) (hF:leF 1 F [(0,.val (.slice B l.length bc)),(4,.own 0 0),(14,.val (.int .i64 0))]) :
  G (cxOf Tryz.prog Tryz.f95 K95 T95 R) ⟨w,w.heap.size,[],239,[]⟩ [.code (XC.ref 29).loop,.blk 6,.code (.ref 39)] { F:=F,H:=.own 180 0 9 (some ⟨g,0,none⟩) l.length l.length (bsVq o1) :: rr }:=by
 have hB0:RowE ⟨w,w.heap.size,[],239,[]⟩ B (cellsI l):=hB.toE (by simp) 239 []
 refine zj04 (α:=CB) (fun y=>y.r≤8∧TabB l o1 y.o y.r 0) (fun _=>⟨w,w.heap.size,[],239,[]⟩) (fun y=>{ F:=[(0,.val (.slice B l.length bc)),(4,.own 0 0),(14,.val (.int .i64 (y.r:Int)))],H:=[.own 180 0 9 (some ⟨g,0,none⟩) l.length l.length (bsVq y.o)] }) (fun y=>8 - y.r) (fun _=>rfl) ?start ?round
 case start =>
  intro a W rep
  refine⟨⟨0,o1⟩,⟨by simp,ho1,fun _ _=>rfl,fun j x h=>absurd h (Nat.not_lt_zero _),fun j x _ _=>?_⟩,rep.le hF (by (simp only[go_sem,lk,Nat.reduceBEq,reduceLT,reduceAdd] <;> try simp))⟩
  rw[h7]
  simp[Col7]
 case round =>
  rintro ⟨r,o⟩ ⟨hr,ht⟩ I again
  have hr:r≤8:=hr
  have ht:TabB l o1 o r 0:=ht
  (refine Y_go 10 ?_; dsimp only[go_sem,Nat.reduceBEq,Y_0])
  refine⟨fun hlt=>?_,fun hge=>?_⟩
  ·have hlt:r < 8:=by have:=of_decide_eq_true hlt; omega
   (refine Y_go 600 ?_; dsimp only[go_sem,Nat.reduceBEq])
   refine zj07 (vs:=[.slice B l.length bc,.int .i64 (r:Int)]) rfl (R:=fun W v W'=>∃ (A:Option Addr) (o:List Bool),v=.slice A 1025 1025∧OInv l r o∧Closed l r o∧World.ownsB W' W.heap.size 179 2 (.slice A 1025 1025) 1025 (bsVq o)∧Fresh W W') (fun W hW=>come122 l B bc r W hl (hB.keep hW.fresh') (hG.keep hW.fresh')) fun W v W' hW ⟨A,oc,hv,hoi,hoc,hown,hk⟩=>?_
   obtain⟨A',c',e1,e2,e5,_⟩:=hW.gain hown hk
   injection e1 with e3 _ e4
   subst e3; subst e4; subst hv
   refine⟨.own 1 0,_,?_,e2,e5,?_⟩
   ·simp only[Is]; exact⟨_,_,_,_,_,_,_,rfl,Nat.le_refl _,⟨_,_,_,rfl⟩,fun _=>rfl⟩
   have hcome:=fun s h0=>come_law hl hoi hoc s h0
   (refine Y_go 600 ?_; dsimp only[go_sem,Nat.reduceBEq])
   refine zj04 (α:=CB) (fun y=>y.r≤l.length∧TabB l o1 y.o r y.r) (fun _=>⟨w,w.heap.size,[],239,[]⟩) (fun y=>{ F:=[(0,.val (.slice B l.length bc)),(4,.own 0 0),(14,.val (.int .i64 (r:Int))),(15,.own 1 0),(16,.val (.int .i64 (y.r:Int)))],H:=[.own 180 0 9 (some ⟨g,0,none⟩) l.length l.length (bsVq y.o),.own 179 0 2 A 1025 1025 (bsVq oc)] }) (fun y=>l.length - y.r) (fun _=>rfl) ?start2 ?round2
   case start2 =>
    intro a W rep
    exact⟨⟨0,o⟩,⟨by simp,ht⟩,rep.lq⟩
   case round2 =>
    rintro ⟨i,o2⟩ ⟨hi,ht2⟩ I2 again2
    have hi:i≤l.length:=hi
    have ht2:TabB l o1 o2 r i:=ht2
    (refine Y_go 10 ?_; dsimp only[go_sem,Nat.reduceBEq,Y_0])
    refine⟨fun hlt2=>?_,fun hge2=>?_⟩
    ·have hil:i < l.length:=by have:=of_decide_eq_true hlt2; omega
     have hx:l[i]? = some l[i]:=List.getElem?_eq_getElem hil
     generalize hxx:l[i]=x at hx
     have cl:∀ k v,k < 5→x.cells[k]? = some v→CellAt ⟨w,w.heap.size,[],239,[]⟩ B (i*5+k) v:=fun k v hk hv=>hB0.cell (by rw[zj0b l hil hk,hxx]; exact hv)
     have hBs:B.isSome=true:=hB0.isSome (j:=i*5) (by rw[zj06]; omega)
     have hi1:((i:Nat):Int).toNat=i:=by omega
     (refine Y_go 600 ?_; dsimp only[go_sem,Nat.reduceBEq])
     refine⟨⟨by omega,by omega,hBs⟩,x.op,cl 0 _ (by omega) rfl,x.a,cl 1 _ (by omega) rfl,x.b,cl 2 _ (by omega) rfl,x.c,cl 3 _ (by omega) rfl,x.imm,cl 4 _ (by omega) rfl,?_⟩
     have kloop:∀ A2 c2 F,leF 3 F [(0,.val (.slice B l.length bc)),(4,.own 0 0),(14,.val (.int .i64 (r:Int))),(15,.own 1 0),(16,.val (.int .i64 (i:Int))),(17,bsv (legalB x)),(18,.own 2 0),(19,.val (.int .i64 0))]→G (cxOf Tryz.prog Tryz.f95 K95 T95 R) ⟨w,w.heap.size,[],239,[]⟩ [.code (XC.ref 20).loop,.blk 10,.blk 9,.code (.ref 23),.lend I2,.blk 8,.blk 7,.code (.ref 27),.lend I,.blk 6,.code (.ref 39)] { F:=F,H:=[.own 180 0 9 (some ⟨g,0,none⟩) l.length l.length (bsVq o2),.own 179 0 2 A 1025 1025 (bsVq oc),.own 3 0 1 A2 (readsL x).length c2 ((readsL x).map (Value.int .i64))] }:=by
      intro A2 c2 F hF
      have hrl : (readsL x).length ≤ 2 := by unfold readsL; repeat' split
                                             all_goals simp
      refine zj04 (α:=CB) (fun y=>y.r≤(readsL x).length∧TabK l o1 y.o r i x y.r) (fun _=>⟨w,w.heap.size,[],239,[]⟩) (fun y=>{ F:=[(0,.val (.slice B l.length bc)),(4,.own 0 0),(14,.val (.int .i64 (r:Int))),(15,.own 1 0),(16,.val (.int .i64 (i:Int))),(17,bsv (legalB x)),(18,.own 2 0),(19,.val (.int .i64 (y.r:Int)))],H:=[.own 180 0 9 (some ⟨g,0,none⟩) l.length l.length (bsVq y.o),.own 179 0 2 A 1025 1025 (bsVq oc),.own 3 0 1 A2 (readsL x).length c2 ((readsL x).map (Value.int .i64))] }) (fun y=>(readsL x).length - y.r) (fun _=>rfl) ?start3 ?round3
      case start3 =>
       intro a W rep
       exact⟨⟨0,o2⟩,⟨by simp,ht2.toK hx⟩,rep.le hF (by (simp only[go_sem,lk,Nat.reduceBEq,reduceLT,reduceAdd] <;> try simp))⟩
      case round3 =>
       rintro ⟨k,o3⟩ ⟨hk,ht3⟩ I3 again3
       have hk:k≤(readsL x).length:=hk
       have ht3:TabK l o1 o3 r i x k:=ht3
       have hk1:((k:Nat):Int).toNat=k:=by omega
       cases hlg:legalB x
       all_goals simp only[bsv]
       all_goals (refine Y_go 10 ?_; dsimp only[go_sem,Nat.reduceBEq,Y_0])
       all_goals refine⟨fun hkl=>?_,fun hkl=>?_⟩
       ·have hkl:k < (readsL x).length:=by have:=of_decide_eq_true hkl; omega
        (refine Y_go 600 ?_; dsimp only[go_sem,Nat.reduceBEq,Int.reduceToNat,Nat.reduceMul])
        have hg7:(bsVq o3)[i*9+7]? = some (.bool (o3.getD (i*9+7) false)):=zj1d (by rw[ht3.len]; omega)
        have hl7:i*9+7+1≤(bsVq o3).length:=by rw[zj1x,ht3.len]; omega
        have hmid:o3.getD (i*9+7) false=true ↔ Mid l r i x k:=ht3.mid
        have nx:∀ v F,(v=true ↔ Mid l r i x (k+1))→leF 3 F [(0,.val (.slice B l.length bc)),(4,.own 0 0),(14,.val (.int .i64 (r:Int))),(15,.own 1 0),(16,.val (.int .i64 (i:Int))),(17,.bf),(18,.own 2 0),(19,.val (.int .i64 ((k+1:Nat):Int)))]→G (cxOf Tryz.prog Tryz.f95 K95 T95 R) ⟨w,w.heap.size,[],239,[]⟩ [.lend I3,.blk 10,.blk 9,.code (.ref 23),.lend I2,.blk 8,.blk 7,.code (.ref 27),.lend I,.blk 6,.code (.ref 39)] { F:=F,H:=[.own 180 0 9 (some ⟨g,0,none⟩) l.length l.length (setn (bsVq o3) (i*9+7) (.bool v)),.own 179 0 2 A 1025 1025 (bsVq oc),.own 3 0 1 A2 (readsL x).length c2 ((readsL x).map (Value.int .i64))] }:=fun v F hv hF =>
         zj00 fun a W rep=>again3 ⟨k+1,o3.set (i*9+7) v⟩ ⟨by show k+1≤_; omega,ht3.put hil hv⟩ (by show (readsL x).length - (k+1) < (readsL x).length - k; omega) a W (rep.le (by simp only[hlg,bsv]; exact hF) (by rw[zj35]; (simp only[go_sem,lk,Nat.reduceBEq,reduceLT,reduceAdd] <;> try simp)))
        rw[hi1]
        refine⟨⟨by omega,by omega⟩,⟨by omega,by omega⟩,_,hg7,fun hb=>⟨⟨by omega,by omega⟩,⟨by omega,by omega⟩,hl7,((k+1:Nat):Int),ArOk.to (by omega) (by omega) (by omega),  nx true _ ⟨fun _=>zj2h.2 (.inl (hmid.1 hb)),fun _=>rfl⟩ (by (simp only[go_sem,lk,Nat.reduceBEq,reduceLT,reduceAdd] <;> try simp))⟩,fun hb=>⟨⟨by omega,by omega⟩,⟨by omega,by omega⟩,hl7,((k+1:Nat):Int),ArOk.to (by omega) (by omega) (by omega),  nx false _ ⟨fun h=>(by cases h),fun h=>?_⟩ (by (simp only[go_sem,lk,Nat.reduceBEq,reduceLT,reduceAdd] <;> try simp))⟩⟩
        rcases zj2h.1 h with h | ⟨h,_⟩
        ·rw[hmid.2 h] at hb; cases hb
        ·rw[hlg] at h; cases h
       ·have hkl:k=(readsL x).length:=by have:=of_decide_eq_false hkl; omega
        (refine Y_go 600 ?_; dsimp only[go_sem,Nat.reduceBEq])
        exact⟨((i+1:Nat):Int),ArOk.to (by omega) (by omega) (by omega),zj00 fun a W rep=>again2 ⟨i+1,o3⟩ ⟨by show i+1≤_; omega,(by rw[hkl] at ht3; exact ht3.toB hx)⟩ (by show l.length - (i+1) < l.length - i; omega) a W (rep.lq)⟩
       ·have hkl:k < (readsL x).length:=by have:=of_decide_eq_true hkl; omega
        (refine Y_go 600 ?_; dsimp only[go_sem,Nat.reduceBEq,Int.reduceToNat,Nat.reduceMul])
        have hg7:(bsVq o3)[i*9+7]? = some (.bool (o3.getD (i*9+7) false)):=zj1d (by rw[ht3.len]; omega)
        have hl7:i*9+7+1≤(bsVq o3).length:=by rw[zj1x,ht3.len]; omega
        have hmid:o3.getD (i*9+7) false=true ↔ Mid l r i x k:=ht3.mid
        have nx:∀ v F,(v=true ↔ Mid l r i x (k+1))→leF 3 F [(0,.val (.slice B l.length bc)),(4,.own 0 0),(14,.val (.int .i64 (r:Int))),(15,.own 1 0),(16,.val (.int .i64 (i:Int))),(17,.bt),(18,.own 2 0),(19,.val (.int .i64 ((k+1:Nat):Int)))]→G (cxOf Tryz.prog Tryz.f95 K95 T95 R) ⟨w,w.heap.size,[],239,[]⟩ [.lend I3,.blk 10,.blk 9,.code (.ref 23),.lend I2,.blk 8,.blk 7,.code (.ref 27),.lend I,.blk 6,.code (.ref 39)] { F:=F,H:=[.own 180 0 9 (some ⟨g,0,none⟩) l.length l.length (setn (bsVq o3) (i*9+7) (.bool v)),.own 179 0 2 A 1025 1025 (bsVq oc),.own 3 0 1 A2 (readsL x).length c2 ((readsL x).map (Value.int .i64))] }:=fun v F hv hF =>
         zj00 fun a W rep=>again3 ⟨k+1,o3.set (i*9+7) v⟩ ⟨by show k+1≤_; omega,ht3.put hil hv⟩ (by show (readsL x).length - (k+1) < (readsL x).length - k; omega) a W (rep.le (by simp only[hlg,bsv]; exact hF) (by rw[zj35]; (simp only[go_sem,lk,Nat.reduceBEq,reduceLT,reduceAdd] <;> try simp)))
        rw[hi1]
        have hrk:((readsL x).map (Value.int .i64))[k*1]? = some (.int .i64 ((readsL x)[k])):=by rw[Nat.mul_one,List.getElem?_map,List.getElem?_eq_getElem hkl]; rfl
        have hqk:(readsL x)[k]? = some (readsL x)[k]:=List.getElem?_eq_getElem hkl
        have hc0:(bsVq oc)[i*2]? = some (.bool (mkd oc ((i:Int),false))):=by
         rw[show mkd oc ((i:Int),false)=oc.getD (i*2) false from by unfold mkd ixS; simp]
         exact zj1d (by rw[hoi.len]; omega)
        have hc1:(bsVq oc)[i*2+1]? = some (.bool (mkd oc ((i:Int),true))):=by
         rw[show mkd oc ((i:Int),true)=oc.getD (i*2+1) false from by unfold mkd ixS; simp]
         exact zj1d (by rw[hoi.len]; omega)
        have w0:=hcome ((i:Int),false) (by show (0:Int)≤(i:Int); omega)
        have w1:=hcome ((i:Int),true) (by show (0:Int)≤(i:Int); omega)
        have hno:o3.getD (i*9+7) false=false→¬ Mid l r i x k:=fun hb h=>by rw[hmid.2 h] at hb; cases hb
        refine⟨⟨by omega,by omega⟩,⟨by omega,by omega⟩,_,hg7,fun hb=>⟨⟨by omega,by omega⟩,⟨by omega,by omega⟩,hl7,((k+1:Nat):Int),ArOk.to (by omega) (by omega) (by omega),  nx true _ ⟨fun _=>zj2h.2 (.inl (hmid.1 hb)),fun _=>rfl⟩ (by (simp only[go_sem,lk,Nat.reduceBEq,reduceLT,reduceAdd] <;> try simp))⟩,fun hb=>⟨⟨by omega,by omega⟩,(readsL x)[k],by rw[hk1]; exact hrk,fun hq=>⟨⟨by omega,by omega⟩,⟨by omega,by omega⟩,_,hc0,fun h0=>⟨⟨by omega,by omega⟩,⟨by omega,by omega⟩,hl7,((k+1:Nat):Int),ArOk.to (by omega) (by omega) (by omega),  nx true _ ⟨fun _=>zj2h.2 (.inr ⟨hlg,by rw[hqk]; simpa using hq,.inl (w0.1 h0)⟩),fun _=>rfl⟩ (by (simp only[go_sem,lk,Nat.reduceBEq,reduceLT,reduceAdd] <;> try simp))⟩,fun h0=>?_⟩,fun hq=>?_⟩⟩
        ·refine⟨⟨by omega,by omega⟩,⟨by omega,by omega⟩,_,hc1,⟨by omega,by omega⟩,⟨by omega,by omega⟩,hl7,((k+1:Nat):Int),ArOk.to (by omega) (by omega) (by omega),  nx (mkd oc ((i:Int),true)) _ ⟨fun h=>zj2h.2 (.inr ⟨hlg,by rw[hqk]; simpa using hq,.inr (w1.1 h)⟩),fun h=>?_⟩ (by (simp only[go_sem,lk,Nat.reduceBEq,reduceLT,reduceAdd] <;> try simp))⟩
         rcases zj2h.1 h with h | ⟨_,_,h | h⟩
         ·exact absurd h (hno hb)
         ·rw[w0.2 h] at h0; cases h0
         ·exact w1.2 h
        ·refine⟨⟨by omega,by omega⟩,⟨by omega,by omega⟩,hl7,((k+1:Nat):Int),ArOk.to (by omega) (by omega) (by omega),  nx false _ ⟨fun h=>(by cases h),fun h=>?_⟩ (by (simp only[go_sem,lk,Nat.reduceBEq,reduceLT,reduceAdd] <;> try simp))⟩
         rcases zj2h.1 h with h | ⟨_,h,_⟩
         ·exact absurd h (hno hb)
         ·rw[hqk] at h
          injection h with h
          rw[h] at hq
          simp at hq
       ·have hkl:k=(readsL x).length:=by have:=of_decide_eq_false hkl; omega
        (refine Y_go 600 ?_; dsimp only[go_sem,Nat.reduceBEq])
        exact⟨((i+1:Nat):Int),ArOk.to (by omega) (by omega) (by omega),zj00 fun a W rep=>again2 ⟨i+1,o3⟩ ⟨by show i+1≤_; omega,(by rw[hkl] at ht3; exact ht3.toB hx)⟩ (by show l.length - (i+1) < l.length - i; omega) a W (rep.lq)⟩
     cases hlg:legalB x
     ·refine zj01 (vs:=[In.val x]) rfl (fun W hW=>zj17 x W) fun v hv=>⟨.bf,by rw[hv,hlg]; simp[Is],?_⟩
      (refine Y_go 600 ?_; dsimp only[go_sem,Nat.reduceBEq])
      refine⟨⟨by omega,by omega,hBs⟩,x.op,cl 0 _ (by omega) rfl,x.a,cl 1 _ (by omega) rfl,x.b,cl 2 _ (by omega) rfl,x.c,cl 3 _ (by omega) rfl,x.imm,cl 4 _ (by omega) rfl,?_⟩
      refine zj07 (vs:=[In.val x]) rfl (R:=fun W v W'=>∃ (A:Option Addr) (c:Nat),v=.slice A (readsL x).length c∧World.ownsB W' W.heap.size 3 1 (.slice A (readsL x).length c) (readsL x).length ((readsL x).map (Value.int .i64))∧Fresh W W') (fun W hW=>reads91 x W) fun W v W' hW ⟨A2,c2,hv,hown,hk⟩=>?_
      obtain⟨A',c',e1,e2,e5,_⟩:=hW.gain hown hk
      injection e1 with e3 _ e4
      subst e3; subst e4; subst hv
      refine⟨.own 2 0,_,?_,e2,e5,?_⟩
      ·simp only[Is]; exact⟨_,_,_,_,_,_,_,rfl,Nat.le_refl _,⟨_,_,_,rfl⟩,fun _=>rfl⟩
      (refine Y_go 600 ?_; dsimp only[go_sem,Nat.reduceBEq])
      exact kloop A2 c2 _ (by simp only[hlg,bsv]; (simp only[go_sem,lk,Nat.reduceBEq,reduceLT,reduceAdd] <;> try simp))
     ·refine zj01 (vs:=[In.val x]) rfl (fun W hW=>zj17 x W) fun v hv=>⟨.bt,by rw[hv,hlg]; simp[Is],?_⟩
      (refine Y_go 600 ?_; dsimp only[go_sem,Nat.reduceBEq])
      refine⟨⟨by omega,by omega,hBs⟩,x.op,cl 0 _ (by omega) rfl,x.a,cl 1 _ (by omega) rfl,x.b,cl 2 _ (by omega) rfl,x.c,cl 3 _ (by omega) rfl,x.imm,cl 4 _ (by omega) rfl,?_⟩
      refine zj07 (vs:=[In.val x]) rfl (R:=fun W v W'=>∃ (A:Option Addr) (c:Nat),v=.slice A (readsL x).length c∧World.ownsB W' W.heap.size 3 1 (.slice A (readsL x).length c) (readsL x).length ((readsL x).map (Value.int .i64))∧Fresh W W') (fun W hW=>reads91 x W) fun W v W' hW ⟨A2,c2,hv,hown,hk⟩=>?_
      obtain⟨A',c',e1,e2,e5,_⟩:=hW.gain hown hk
      injection e1 with e3 _ e4
      subst e3; subst e4; subst hv
      refine⟨.own 2 0,_,?_,e2,e5,?_⟩
      ·simp only[Is]; exact⟨_,_,_,_,_,_,_,rfl,Nat.le_refl _,⟨_,_,_,rfl⟩,fun _=>rfl⟩
      (refine Y_go 600 ?_; dsimp only[go_sem,Nat.reduceBEq])
      exact kloop A2 c2 _ (by simp only[hlg,bsv]; (simp only[go_sem,lk,Nat.reduceBEq,reduceLT,reduceAdd] <;> try simp))
    ·have hge2:i=l.length:=by have:=of_decide_eq_false hge2; omega
     subst hge2
     (refine Y_go 600 ?_; dsimp only[go_sem,Nat.reduceBEq])
     refine⟨((r+1:Nat):Int),ArOk.to (by omega) (by omega) (by omega),zj00 fun a W rep=>again ⟨r+1,o2⟩ ⟨by show r+1≤8; omega,ht2.len,ht2.same,fun j x h=>absurd h (Nat.not_lt_zero _),fun j x _ hx=>ht2.lo j x (zj4d hx) hx⟩ (by show 8 - (r+1) < 8 - r; omega) a W (rep.lq)⟩
  ·have hge:r=8:=by have:=of_decide_eq_false hge; omega
   subst hge
   (refine Y_go 600 ?_; dsimp only[go_sem,Nat.reduceBEq])
   exact next o ht.len ht.same (fun j x hx=>ht.hi j x (Nat.zero_le _) hx) _ [] (by (simp only[go_sem,lk,Nat.reduceBEq,reduceLT,reduceAdd] <;> try simp))
structure TabA (l:List In) (Q:Nat→Nat→Prop) (o:List Bool) (i:Nat) (P:Nat→Prop):Prop where
 len:o.length=l.length*9
 lo:∀ j n,j < i→n < 9→n ≠ 7→(o.getD (j*9+n) false=true ↔ Q j n)
 mid:∀ n,n < 9→n ≠ 7→(o.getD (i*9+n) false=true ↔ P n)
 hi:∀ k,(i+1)*9≤k→o.getD k false=false
 c7:∀ j,o.getD (j*9+7) false=false
theorem TabA.put {l:List In} {Q:Nat→Nat→Prop} {o:List Bool} {i n:Nat} {P P':Nat→Prop} {v:Bool} (h:TabA l Q o i P) (hi:i < l.length) (hn:n < 9) (h7:n ≠ 7) (hv:v=true ↔ P' n) (hs:∀ m,m ≠ n→m < 9→m ≠ 7→(P m ↔ P' m)):TabA l Q (o.set (i*9+n) v) i P':=by
 have hlt:i*9+n < o.length:=by rw[h.len]; omega
 refine⟨by simp[h.len],fun j m hj hm h7m=>?_,fun m hm h7m=>?_,fun k hk=>?_,fun j=>?_⟩
 ·rw[zj24 hlt,if_neg (by omega)]; exact h.lo j m hj hm h7m
 ·rw[zj24 hlt]
  split
  ·rename_i e
   have:m=n:=by omega
   subst this; exact hv
  ·rename_i e
   rw[h.mid m hm h7m]; exact hs m (by omega) hm h7m
 ·rw[zj24 hlt,if_neg (by omega)]; exact h.hi k hk
 ·rw[zj24 hlt,if_neg (by omega)]; exact h.c7 j
theorem TabA.next {l:List In} {Q:Nat→Nat→Prop} {o:List Bool} {i:Nat} {P:Nat→Prop} (h:TabA l Q o i P) (hq:∀ n,n < 9→n ≠ 7→(P n ↔ Q i n)):TabA l Q o (i+1) (fun _=>False):=by
 refine⟨h.len,fun j n hj hn h7=>?_,fun n hn h7=>?_,fun k hk=>h.hi k (by omega),h.c7⟩
 ·by_cases e:j=i
  ·subst e; rw[h.mid n hn h7]; exact hq n hn h7
  ·exact h.lo j n (by omega) hn h7
 ·rw[h.hi ((i+1)*9+n) (by omega)]; simp
theorem TabA.zero (l:List In) (Q:Nat→Nat→Prop):TabA l Q (List.replicate (l.length*9) false) 0 (fun _=>False):=by
 have hz:∀ k,(List.replicate (l.length*9) false).getD k false=false:=fun k=>by
  rw[List.getD_eq_getElem?_getD,List.getElem?_replicate]
  split <;> rfl
 exact⟨by simp,fun j n hj=>absurd hj (Nat.not_lt_zero _),fun n _ _=>by rw[hz]; simp,fun k _=>hz k,fun j=>hz _⟩
theorem rep9 (n:Nat):repN n [Value.bool false,.bool false,.bool false,.bool false,.bool false,.bool false,.bool false,.bool false,.bool false]=bsVq (List.replicate (n*9) false):=by
 induction n with
 | zero=>rfl
 | succ n ih =>
  rw[repN,ih,Nat.add_mul,Nat.add_comm (n*9),← List.replicate_append_replicate]
  rfl
def ColA (l:List In) (x:In) (i:Nat) (b:Bool) (n:Nat):Prop:=wrongI x b=n∨(n=5∧∃ z ∈ gO x ((i:Int),b),z.2=true∧(l.length:Int)≤z.1)∨(n=6∧wrongI x b ≠ 1∧13≤x.op∧x.op≤16∧(x.imm < 0∨1024 < x.imm))
def None8 (l:List In) (i:Nat) (n:Nat):Prop:=n=8∧¬ ReachW l (-1) ((i:Int),false)∧¬ ReachW l (-1) ((i:Int),true)
def RowA (l:List In) (i n:Nat):Prop:=∃ x,l[i]? = some x∧(None8 l i n∨∃ b,ReachW l (-1) ((i:Int),b)∧ColA l x i b n)
def Prt (j:Nat) (b:Bool):Prop:=(if b=true then 2 else 1)≤j
def PJ (l:List In) (x:In) (i j n:Nat):Prop:=None8 l i n∨∃ b,Prt j b∧ReachW l (-1) ((i:Int),b)∧ColA l x i b n
theorem pj2 {l:List In} {x:In} {i n:Nat} (hx:l[i]? = some x):PJ l x i 2 n ↔ RowA l i n:=by
 unfold PJ RowA
 constructor
 ·rintro (h | ⟨b,_,h⟩)
  ·exact⟨x,hx,.inl h⟩
  ·exact⟨x,hx,.inr ⟨b,h⟩⟩
 ·rintro ⟨y,hy,h⟩
  rw[hx] at hy; injection hy with hy; subst hy
  rcases h with h | ⟨b,h⟩
  ·exact .inl h
  ·exact .inr ⟨b,by unfold Prt; split <;> omega,h⟩
theorem pj_succ {l:List In} {x:In} {i j n:Nat} (hj:j < 2):PJ l x i (j+1) n ↔ PJ l x i j n∨(ReachW l (-1) ((i:Int),insJ j)∧ColA l x i (insJ j) n):=by
 unfold PJ Prt insJ
 have:j=0∨j=1:=by omega
 rcases this with rfl | rfl
 ·constructor
  ·rintro (h | ⟨b,hb,h⟩)
   ·exact .inl (.inl h)
   ·cases b
    ·exact .inr h
    ·simp at hb
  ·rintro ((h | ⟨b,hb,h⟩) | h)
   ·exact .inl h
   ·cases b <;> simp at hb
   ·exact .inr ⟨false,by simp,h⟩
 ·constructor
  ·rintro (h | ⟨b,hb,h⟩)
   ·exact .inl (.inl h)
   ·cases b
    ·exact .inl (.inr ⟨false,by simp,h⟩)
    ·exact .inr h
  ·rintro ((h | ⟨b,hb,h⟩) | h)
   ·exact .inl h
   ·cases b
    ·exact .inr ⟨false,by simp,h⟩
    ·simp at hb
   ·exact .inr ⟨true,by simp,h⟩
def PK (l:List In) (x:In) (i j nw:Nat) (gs:List Spot) (k n:Nat):Prop:=PJ l x i j n∨n=nw∨(n=5∧∃ m z,m < k∧gs[m]? = some z∧z.2=true∧(l.length:Int)≤z.1)
theorem pk_succ {l:List In} {x:In} {i j nw:Nat} {gs:List Spot} {k n:Nat} {z:Spot} (hz:gs[k]? = some z):PK l x i j nw gs (k+1) n ↔ PK l x i j nw gs k n∨(n=5∧z.2=true∧(l.length:Int)≤z.1):=by
 unfold PK
 constructor
 ·rintro (h | h | ⟨h1,m,y,h2,h3,h4⟩)
  ·exact .inl (.inl h)
  ·exact .inl (.inr (.inl h))
  ·by_cases e:m=k
   ·subst e; rw[hz] at h3; injection h3 with h3; subst h3; exact .inr ⟨h1,h4⟩
   ·exact .inl (.inr (.inr ⟨h1,m,y,by omega,h3,h4⟩))
 ·rintro ((h | h | ⟨h1,m,y,h2,h3⟩) | ⟨h1,h4⟩)
  ·exact .inl h
  ·exact .inr (.inl h)
  ·exact .inr (.inr ⟨h1,m,y,by omega,h3⟩)
  ·exact .inr (.inr ⟨h1,k,z,by omega,hz,h4⟩)
structure CIq where
 i:Nat
 o:List Bool
theorem lookA {l:List In} {B:Option Addr} {bc:Nat} {w:World} {R:Value→World→Prop} (hl:l.length≤1024) (hB:RowAt w B (cellsI l)) (hG:ShAt w) (g:Nat) (A:Option Addr) (oc:List Bool) (hoi:OInv l (-1) oc) (hoc:Closed l (-1) oc)
  (next:∀ (o:List Bool),TabA l (RowA l) o l.length (fun _=>False)→∀ (F:List (Nat × SV)) (rr:List SO),leF 1 F [(0,.val (.slice B l.length bc)),(4,.own 0 0),(14,.val (.int .i64 0))] →
   G (cxOf Tryz.prog Tryz.f95 K95 T95 R) ⟨w,w.heap.size,[],239,[]⟩ [.code (XC.ref 29).loop,.blk 6,.code (.ref 39)] { F:=F,H:=.own 180 0 9 (some ⟨g,0,none⟩) l.length l.length (bsVq o) :: rr })
  (F:List (Nat × SV)) (hF:leF 2 F [(0,.val (.slice B l.length bc)),(4,.own 0 0),(5,.own 1 0),(6,.val (.int .i64 0))]) :
  G (cxOf Tryz.prog Tryz.f95 K95 T95 R) ⟨w,w.heap.size,[],239,[]⟩ [.code (XC.ref 17).loop,.blk 0,.code (.ref 40)] { F:=F,H:=[.own 180 0 9 (some ⟨g,0,none⟩) l.length l.length (bsVq (List.replicate (l.length*9) false)),.own 179 0 2 A 1025 1025 (bsVq oc)] }:=by
 have hB0:RowE ⟨w,w.heap.size,[],239,[]⟩ B (cellsI l):=hB.toE (by simp) 239 []
 have hcome:=fun s h0=>come_law hl hoi hoc s h0
 refine zj04 (α:=CIq) (fun y=>y.i≤l.length∧TabA l (RowA l) y.o y.i (fun _=>False)) (fun _=>⟨w,w.heap.size,[],239,[]⟩) (fun y=>{ F:=[(0,.val (.slice B l.length bc)),(4,.own 0 0),(5,.own 1 0),(6,.val (.int .i64 (y.i:Int)))],H:=[.own 180 0 9 (some ⟨g,0,none⟩) l.length l.length (bsVq y.o),.own 179 0 2 A 1025 1025 (bsVq oc)] }) (fun y=>l.length - y.i) (fun _=>rfl) ?start ?round
 case start =>
  intro a W rep
  exact⟨⟨0,_⟩,⟨by simp,TabA.zero l _⟩,rep.le hF (by (simp only[go_sem,lk,Nat.reduceBEq,reduceLT,reduceAdd] <;> try simp))⟩
 case round =>
  rintro ⟨i,o⟩ ⟨hi,ht⟩ I again
  have hi:i≤l.length:=hi
  have ht:TabA l (RowA l) o i (fun _=>False):=ht
  (refine Y_go 10 ?_; dsimp only[go_sem,Nat.reduceBEq,Y_0])
  refine⟨fun hlt=>?_,fun hge=>?_⟩
  ·have hil:i < l.length:=by have:=of_decide_eq_true hlt; omega
   have hi1:((i:Nat):Int).toNat=i:=by omega
   have hx:l[i]? = some l[i]:=List.getElem?_eq_getElem hil
   generalize hxx:l[i]=x at hx
   have hc0:(bsVq oc)[i*2]? = some (.bool (mkd oc ((i:Int),false))):=by
    rw[show mkd oc ((i:Int),false)=oc.getD (i*2) false from by unfold mkd ixS; simp]
    exact zj1d (by rw[hoi.len]; omega)
   have hc1:(bsVq oc)[i*2+1]? = some (.bool (mkd oc ((i:Int),true))):=by
    rw[show mkd oc ((i:Int),true)=oc.getD (i*2+1) false from by unfold mkd ixS; simp]
    exact zj1d (by rw[hoi.len]; omega)
   have w0:=hcome ((i:Int),false) (by show (0:Int)≤(i:Int); omega)
   have w1:=hcome ((i:Int),true) (by show (0:Int)≤(i:Int); omega)
   have h8l:i*9+8+1≤(bsVq o).length:=by rw[zj1x,ht.len]; omega
   have inl:∀ v F,(v=true ↔ (¬ ReachW l (-1) ((i:Int),false)∧¬ ReachW l (-1) ((i:Int),true)))→leF 2 F [(0,.val (.slice B l.length bc)),(4,.own 0 0),(5,.own 1 0),(6,.val (.int .i64 (i:Int))),(7,.val (.int .i64 0))]→G (cxOf Tryz.prog Tryz.f95 K95 T95 R) ⟨w,w.heap.size,[],239,[]⟩ [.code (XC.ref 13).loop,.blk 2,.blk 1,.code (.ref 15),.lend I,.blk 0,.code (.ref 40)] { F:=F,H:=[.own 180 0 9 (some ⟨g,0,none⟩) l.length l.length (setn (bsVq o) (i*9+8) (.bool v)),.own 179 0 2 A 1025 1025 (bsVq oc)] }:=by
    intro v F hv hF
    have ht1:TabA l (RowA l) (o.set (i*9+8) v) i (PJ l x i 0):=ht.put hil (by omega) (by omega) (by rw[hv]; simp[PJ,None8,Prt]) (fun m hm _ _=>by
     simp only[PJ,None8,Prt,false_iff]
     rintro (h | ⟨b,hb,_⟩)
     ·exact hm h.1
     ·cases b <;> simp at hb)
    rw[zj35]
    generalize o.set (i*9+8) v=o1 at ht1
    refine zj04 (α:=CIq) (fun y=>y.i≤2∧TabA l (RowA l) y.o i (PJ l x i y.i)) (fun _=>⟨w,w.heap.size,[],239,[]⟩) (fun y=>{ F:=[(0,.val (.slice B l.length bc)),(4,.own 0 0),(5,.own 1 0),(6,.val (.int .i64 (i:Int))),(7,.val (.int .i64 (y.i:Int)))],H:=[.own 180 0 9 (some ⟨g,0,none⟩) l.length l.length (bsVq y.o),.own 179 0 2 A 1025 1025 (bsVq oc)] }) (fun y=>2 - y.i) (fun _=>rfl) ?start2 ?round2
    case start2 =>
     intro a W rep
     exact⟨⟨0,o1⟩,⟨by simp,ht1⟩,rep.le hF (by (simp only[go_sem,lk,Nat.reduceBEq,reduceLT,reduceAdd] <;> try simp))⟩
    case round2 =>
     rintro ⟨j,o2⟩ ⟨hj,ht2⟩ I2 again2
     have hj:j≤2:=hj
     have ht2:TabA l (RowA l) o2 i (PJ l x i j):=ht2
     have hj1:((j:Nat):Int).toNat=j:=by omega
     (refine Y_go 10 ?_; dsimp only[go_sem,Nat.reduceBEq,Y_0])
     refine⟨fun hlt2=>?_,fun hge2=>?_⟩
     ·have hjl:j < 2:=by have:=of_decide_eq_true hlt2; omega
      have nextJ:∀ (o4:List Bool) F H,TabA l (RowA l) o4 i (PJ l x i (j+1))→leF 2 F [(0,.val (.slice B l.length bc)),(4,.own 0 0),(5,.own 1 0),(6,.val (.int .i64 (i:Int))),(7,.val (.int .i64 ((j+1:Nat):Int)))]→(∃ rr,H=SO.own 180 0 9 (some ⟨g,0,none⟩) l.length l.length (bsVq o4) :: SO.own 179 0 2 A 1025 1025 (bsVq oc) :: rr)→G (cxOf Tryz.prog Tryz.f95 K95 T95 R) ⟨w,w.heap.size,[],239,[]⟩ [.lend I2,.blk 2,.blk 1,.code (.ref 15),.lend I,.blk 0,.code (.ref 40)] { F:=F,H:=H }:=by
       rintro o4 F H h1 hF ⟨rr,rfl⟩
       exact zj00 fun a W rep=>again2 ⟨j+1,o4⟩ ⟨by show j+1≤2; omega,h1⟩ (by show 2 - (j+1) < 2 - j; omega) a W (rep.le hF (by (simp only[go_sem,lk,Nat.reduceBEq,reduceLT,reduceAdd] <;> try simp)))
      have hcj:(bsVq oc)[i*2+j*1]? = some (.bool (mkd oc ((i:Int),insJ j))):=by
       have:j=0∨j=1:=by omega
       rcases this with rfl | rfl
       ·exact hc0
       ·exact hc1
      have wj:=hcome ((i:Int),insJ j) (by show (0:Int)≤(i:Int); omega)
      (refine Y_go 600 ?_; dsimp only[go_sem,Nat.reduceBEq])
      rw[hi1,hj1]
      refine⟨⟨by omega,by omega⟩,⟨by omega,by omega⟩,_,hcj,fun hb=>?_,fun hb=>?_⟩
      ·have hnr:¬ ReachW l (-1) ((i:Int),insJ j):=fun h=>by rw[wj.2 h] at hb; simp at hb
       refine⟨((j+1:Nat):Int),ArOk.to (by omega) (by omega) (by omega),nextJ o2 _ _ ⟨ht2.len,ht2.lo,fun n hn h7=>?_,ht2.hi,ht2.c7⟩ (by (simp only[go_sem,lk,Nat.reduceBEq,reduceLT,reduceAdd] <;> try simp)) ⟨_,rfl⟩⟩
       rw[ht2.mid n hn h7,pj_succ hjl]
       simp[hnr]
      ·have hr:ReachW l (-1) ((i:Int),insJ j):=wj.1 (by simpa using hb)
       have hbj:bI (insJ j)=(j:Int):=by
        have:j=0∨j=1:=by omega
        rcases this with rfl | rfl <;> rfl
       have hwr:0≤wrongI x (insJ j)∧wrongI x (insJ j)≤4:=by
        unfold wrongI
        repeat' split
        all_goals omega
       obtain⟨nw,hnw⟩:∃ k:Nat,wrongI x (insJ j)=k:=⟨(wrongI x (insJ j)).toNat,by omega⟩
       refine zj01 (vs:=[.slice B l.length bc,.int .i64 (i:Int),.int .i64 (j:Int)]) rfl (fun W hW=>by
        have:=wrong123 l B bc i (insJ j) x W hx hl (hB.keep hW.fresh') (hG.keep hW.fresh')
        rw[hbj] at this; exact this) fun v hv=>⟨.val (.int .i64 (nw:Int)),by rw[hv,hnw]; simp[Is],?_⟩
       have hn1:((nw:Nat):Int).toNat=nw:=by omega
       have hnl:i*9+nw*1+1≤(bsVq o2).length:=by rw[zj1x,ht2.len]; omega
       (refine Y_go 600 ?_; dsimp only[go_sem,Nat.reduceBEq])
       rw[hi1,hn1]
       refine⟨⟨by omega,by omega⟩,⟨by omega,by omega⟩,hnl,?_⟩
       refine zj07 (vs:=[.slice B l.length bc,.int .i64 (i:Int),.int .i64 (j:Int)]) rfl (R:=fun W v W'=>∃ (A:Option Addr) (c:Nat),v=.tuple #[.slice A (goesQ x ((i:Int),insJ j)).length c,.bool true]∧World.ownsB W' W.heap.size 185 2 (.slice A (goesQ x ((i:Int),insJ j)).length c) (goesQ x ((i:Int),insJ j)).length (pV (goesQ x ((i:Int),insJ j)))∧Fresh W W') (fun W hW=>by
        have:=goes124 l B bc i (insJ j) x W hx hl (hB.keep hW.fresh') (hG.keep hW.fresh')
        rw[hbj] at this; exact this) fun W v W' hW ⟨A2,c2,hv,hown,hk⟩=>?_
       obtain⟨A',c',e1,e2,e5,_⟩:=hW.gain hown hk
       injection e1 with e3 _ e4
       subst e3; subst e4; subst hv
       refine⟨.tup [.own 2 0,.bt],_,?_,e2,e5,?_⟩
       ·simp only[Is,IsL]; exact⟨_,⟨_,_,⟨_,_,_,_,_,_,_,rfl,Nat.le_refl _,⟨_,_,_,rfl⟩,fun _=>rfl⟩,⟨_,_,rfl,rfl,rfl⟩,rfl⟩,rfl⟩
       (refine Y_go 600 ?_; dsimp only[go_sem,Nat.reduceBEq])
       have hnwl:nw < 9∧nw ≠ 7:=⟨by omega,by omega⟩
       generalize hgss:goesQ x ((i:Int),insJ j)=gs
       have ht3:TabA l (RowA l) (o2.set (i*9+nw) true) i (PK l x i j nw gs 0):=ht2.put hil hnwl.1 hnwl.2 (by simp[PK]) (fun m hm _ _=>by simp[PK,hm])
       rw[show nw*1=nw from Nat.mul_one nw,zj35]
       generalize o2.set (i*9+nw) true=o3 at ht3
       have hgl:gs.length≤2:=by rw[← hgss]; exact nxt_len2 _ _
       refine zj04 (α:=CIq) (fun y=>y.i≤gs.length∧TabA l (RowA l) y.o i (PK l x i j nw gs y.i)) (fun _=>⟨w,w.heap.size,[],239,[]⟩) (fun y=>{ F:=[(0,.val (.slice B l.length bc)),(4,.own 0 0),(5,.own 1 0),(6,.val (.int .i64 (i:Int))),(7,.val (.int .i64 (j:Int))),(8,.val (.int .i64 (nw:Int))),(9,.own 2 0),(11,.val (.int .i64 (y.i:Int)))],H:=[.own 180 0 9 (some ⟨g,0,none⟩) l.length l.length (bsVq y.o),.own 179 0 2 A 1025 1025 (bsVq oc),.own 185 0 2 A2 gs.length c2 (pV gs)] }) (fun y=>gs.length - y.i) (fun _=>rfl) ?start3 ?round3
       case start3 =>
        intro a W rep
        exact⟨⟨0,o3⟩,⟨by simp,ht3⟩,rep.lq⟩
       case round3 =>
        rintro ⟨k,o4⟩ ⟨hk,ht4⟩ I3 again3
        have hk:k≤gs.length:=hk
        have ht4:TabA l (RowA l) o4 i (PK l x i j nw gs k):=ht4
        have hk1:((k:Nat):Int).toNat=k:=by omega
        (refine Y_go 10 ?_; dsimp only[go_sem,Nat.reduceBEq,Y_0])
        refine⟨fun hlt3=>?_,fun hge3=>?_⟩
        ·have hkl:k < gs.length:=by have:=of_decide_eq_true hlt3; omega
         have hz:gs[k]? = some gs[k]:=List.getElem?_eq_getElem hkl
         generalize gs[k]=z at hz
         have hpz:=pV_get gs k z hz
         (refine Y_go 600 ?_; dsimp only[go_sem,Nat.reduceBEq,Int.reduceToNat,Nat.reduceMul])
         rw[hi1,hk1]
         have hg5:(bsVq o4)[i*9+5]? = some (.bool (o4.getD (i*9+5) false)):=zj1d (by rw[ht4.len]; omega)
         have hl5:i*9+5+1≤(bsVq o4).length:=by rw[zj1x,ht4.len]; omega
         have hm5:o4.getD (i*9+5) false=true ↔ PK l x i j nw gs k 5:=ht4.mid 5 (by omega) (by omega)
         have hno:o4.getD (i*9+5) false=false→¬ PK l x i j nw gs k 5:=fun hb h=>by rw[hm5.2 h] at hb; cases hb
         have nx:∀ v F,(v=true ↔ PK l x i j nw gs (k+1) 5)→leF 3 F [(0,.val (.slice B l.length bc)),(4,.own 0 0),(5,.own 1 0),(6,.val (.int .i64 (i:Int))),(7,.val (.int .i64 (j:Int))),(8,.val (.int .i64 (nw:Int))),(9,.own 2 0),(11,.val (.int .i64 ((k+1:Nat):Int)))]→G (cxOf Tryz.prog Tryz.f95 K95 T95 R) ⟨w,w.heap.size,[],239,[]⟩ [.lend I3,.blk 4,.code (.ref 6),.blk 3,.code (.ref 11),.lend I2,.blk 2,.blk 1,.code (.ref 15),.lend I,.blk 0,.code (.ref 40)] { F:=F,H:=[.own 180 0 9 (some ⟨g,0,none⟩) l.length l.length (setn (bsVq o4) (i*9+5) (.bool v)),.own 179 0 2 A 1025 1025 (bsVq oc),.own 185 0 2 A2 gs.length c2 (pV gs)] }:=fun v F hv hF =>
          zj00 fun a W rep=>again3 ⟨k+1,o4.set (i*9+5) v⟩ ⟨by show k+1≤_; omega,ht4.put hil (by omega) (by omega) hv (fun m hm _ _=>by rw[pk_succ hz]; simp[hm])⟩ (by show gs.length - (k+1) < gs.length - k; omega) a W (rep.le hF (by rw[zj35]; (simp only[go_sem,lk,Nat.reduceBEq,reduceLT,reduceAdd] <;> try simp)))
         refine⟨⟨by omega,by omega⟩,⟨by omega,by omega⟩,_,hg5,fun hb=>⟨⟨by omega,by omega⟩,⟨by omega,by omega⟩,hl5,((k+1:Nat):Int),ArOk.to (by omega) (by omega) (by omega),nx true _ ⟨fun _=>(pk_succ hz).2 (.inl (hm5.1 hb)),fun _=>rfl⟩ (by (simp only[go_sem,lk,Nat.reduceBEq,reduceLT,reduceAdd] <;> try simp))⟩,fun hb=>⟨⟨by omega,by omega⟩,⟨by omega,by omega⟩,bI z.2,hpz.2,fun hq=>⟨⟨by omega,by omega⟩,⟨by omega,by omega⟩,z.1,hpz.1,⟨by omega,by omega⟩,⟨by omega,by omega⟩,hl5,((k+1:Nat):Int),ArOk.to (by omega) (by omega) (by omega),nx _ _ ?_ (by (simp only[go_sem,lk,Nat.reduceBEq,reduceLT,reduceAdd] <;> try simp))⟩,fun hq=>⟨⟨by omega,by omega⟩,⟨by omega,by omega⟩,hl5,((k+1:Nat):Int),ArOk.to (by omega) (by omega) (by omega),nx false _ ?_ (by (simp only[go_sem,lk,Nat.reduceBEq,reduceLT,reduceAdd] <;> try simp))⟩⟩⟩
         ·have hz2:z.2=true:=by cases e:z.2 <;> rw[e] at hq <;> first | rfl | simp[bI] at hq
          rw[pk_succ hz]
          simp[hno hb,hz2]
         ·have hz2:z.2=false:=by cases e:z.2 <;> rw[e] at hq <;> first | rfl | simp[bI] at hq
          rw[pk_succ hz]
          simp[hno hb,hz2]
        ·have hkl:k=gs.length:=by have:=of_decide_eq_false hge3; omega
         subst hkl
         have cl:∀ k v,k < 5→x.cells[k]? = some v→CellAt ⟨w,w.heap.size,[],239,[]⟩ B (i*5+k) v:=fun k v hk hv=>hB0.cell (by rw[zj0b l hil hk,hxx]; exact hv)
         have hBs:B.isSome=true:=hB0.isSome (j:=i*5) (by rw[zj06]; omega)
         have hg6:(bsVq o4)[i*9+6]? = some (.bool (o4.getD (i*9+6) false)):=zj1d (by rw[ht4.len]; omega)
         have hl6:i*9+6+1≤(bsVq o4).length:=by rw[zj1x,ht4.len]; omega
         have hm6:o4.getD (i*9+6) false=true ↔ PK l x i j nw gs gs.length 6:=ht4.mid 6 (by omega) (by omega)
         have hpj:∀ n,PJ l x i (j+1) n ↔ PK l x i j nw gs gs.length n∨(n=6∧¬ (nw:Int)=1∧13≤x.op∧x.op≤16∧(x.imm < 0∨1024 < x.imm)):=by
          intro n
          rw[pj_succ hjl]
          unfold PK ColA
          rw[hnw]
          constructor
          ·rintro (h | ⟨_,h | ⟨h1,z,hz,h2⟩ | ⟨h1,h2⟩⟩)
           ·exact .inl (.inl h)
           ·exact .inl (.inr (.inl (by omega)))
           ·have hz:z ∈ gs:=by rw[← hgss]; exact hz
            obtain⟨m,hm,hmm⟩:=List.mem_iff_getElem.1 hz
            exact .inl (.inr (.inr ⟨by omega,m,z,hm,by rw[List.getElem?_eq_getElem hm,hmm],h2⟩))
           ·exact .inr ⟨by omega,h2⟩
          ·rintro ((h | h | ⟨h1,m,z,_,h3,h4⟩) | ⟨h1,h2⟩)
           ·exact .inl h
           ·exact .inr ⟨hr,.inl (by omega)⟩
           ·exact .inr ⟨hr,.inr (.inl ⟨by omega,z,by rw[← hgss] at h3; exact List.mem_of_getElem? h3,h4⟩)⟩
           ·exact .inr ⟨hr,.inr (.inr ⟨by omega,h2⟩)⟩
         generalize hb6:o4.getD (i*9+6) false=b6 at hg6 hm6
         have hfin:PJ l x i (j+1) 6 ↔ (b6=true∨(¬ (nw:Int)=1∧13≤x.op∧x.op≤16∧(x.imm < 0∨1024 < x.imm))):=by rw[hpj,hm6]; simp
         have nx6:∀ v F H,(v=true ↔ (b6=true∨(¬ (nw:Int)=1∧13≤x.op∧x.op≤16∧(x.imm < 0∨1024 < x.imm))))→leF 2 F [(0,.val (.slice B l.length bc)),(4,.own 0 0),(5,.own 1 0),(6,.val (.int .i64 (i:Int))),(7,.val (.int .i64 ((j+1:Nat):Int)))]→(∃ rr,H=SO.own 180 0 9 (some ⟨g,0,none⟩) l.length l.length (setn (bsVq o4) (i*9+6) (.bool v)) :: SO.own 179 0 2 A 1025 1025 (bsVq oc) :: rr)→G (cxOf Tryz.prog Tryz.f95 K95 T95 R) ⟨w,w.heap.size,[],239,[]⟩ [.lend I2,.blk 2,.blk 1,.code (.ref 15),.lend I,.blk 0,.code (.ref 40)] { F:=F,H:=H }:=by
          rintro v F H hv hF ⟨rr,rfl⟩
          exact nextJ (o4.set (i*9+6) v) F _ (ht4.put hil (by omega) (by omega) (hv.trans hfin.symm) (fun m hm _ _=>by rw[hpj]; simp[hm])) hF ⟨rr,by rw[zj35]⟩
         (refine Y_go 600 ?_; dsimp only[go_sem,Nat.reduceBEq,reduceAdd,Int.reduceToNat,Nat.reduceMul])
         refine⟨⟨by omega,by omega,hBs⟩,x.op,by rw[hi1]; exact cl 0 _ (by omega) rfl,x.a,by rw[hi1]; exact cl 1 _ (by omega) rfl,x.b,by rw[hi1]; exact cl 2 _ (by omega) rfl,x.c,by rw[hi1]; exact cl 3 _ (by omega) rfl,x.imm,by rw[hi1]; exact cl 4 _ (by omega) rfl,fun gx=>?_⟩
         rw[hi1]
         clear hpj hfin cl hm6 ht4
         repeat' (first | (refine⟨⟨by omega,by omega⟩,?_⟩) | (refine⟨_,hg6,?_⟩) | (refine⟨hl6,?_⟩) | (refine⟨fun hA=>?_,fun hB=>?_⟩) | fail)
         all_goals refine⟨((j+1:Nat):Int),ArOk.to (by omega) (by omega) (by omega),nx6 _ _ _ ?_ (by (simp only[go_sem,lk,Nat.reduceBEq,reduceLT,reduceAdd] <;> try simp)) ⟨_,rfl⟩⟩
         all_goals (clear nx6 nextJ again again2 again3; simp_all)
         all_goals omega
     ·have hj2:j=2:=by have:=of_decide_eq_false hge2; omega
      subst hj2
      (refine Y_go 600 ?_; dsimp only[go_sem,Nat.reduceBEq])
      refine⟨((i+1:Nat):Int),ArOk.to (by omega) (by omega) (by omega),zj00 fun a W rep=>again ⟨i+1,o2⟩ ⟨by show i+1≤_; omega,ht2.next fun n _ _=>pj2 hx⟩ (by show l.length - (i+1) < l.length - i; omega) a W (rep.lq)⟩
   (refine Y_go 600 ?_; dsimp only[go_sem,Nat.reduceBEq,Int.reduceToNat,Nat.reduceMul])
   rw[hi1]
   refine⟨⟨by omega,by omega⟩,⟨by omega,by omega⟩,_,hc0,fun h0=>⟨⟨by omega,by omega⟩,⟨by omega,by omega⟩,_,hc1,⟨by omega,by omega⟩,⟨by omega,by omega⟩,h8l,inl _ _ ?_ (by (simp only[go_sem,lk,Nat.reduceBEq,reduceLT,reduceAdd] <;> try simp))⟩,fun h0=>⟨⟨by omega,by omega⟩,⟨by omega,by omega⟩,h8l,inl _ _ ?_ (by (simp only[go_sem,lk,Nat.reduceBEq,reduceLT,reduceAdd] <;> try simp))⟩⟩
   ·rw[← w0,← w1]
    simp at h0
    rw[h0]
    simp
   ·rw[← w0,← w1]
    simp at h0
    rw[h0]
    simp
  ·have hge:i=l.length:=by have:=of_decide_eq_false hge; omega
   subst hge
   (refine Y_go 600 ?_; dsimp only[go_sem,Nat.reduceBEq])
   exact next o ht _ _ (by (simp only[go_sem,lk,Nat.reduceBEq,reduceLT,reduceAdd] <;> try simp))
theorem look95 (l:List In) (B:Option Addr) (bc:Nat) (w:World) (hl:l.length≤1024) (hB:RowAt w B (cellsI l)) (hG:ShAt w) :
  CallsV Tryz.prog 95 [.slice B l.length bc] w fun v w'=>∃ (A:Option Addr) (c:Nat) (fs:List (Int × Int)),FoundOk l fs∧v=.tuple #[.slice A fs.length c,.int .i64 0] ∧
   World.ownsB w' w.heap.size 46 2 (.slice A fs.length c) fs.length (fsV fs)∧Fresh w w':=by
 refine zj03 (keep:=K95) (nt:=239) (svs:=[.val (.slice B l.length bc)]) Tryz.func95 x95 n95 (by simp) (by simp[IsL,Is]) fun R hR=>?_
 (refine Y_go 600 ?_; dsimp only[go_sem,Nat.reduceAdd,Nat.reduceBEq])
 refine⟨fun h=>absurd (of_decide_eq_true h) (by omega),fun _=>⟨⟨by omega,by omega,by omega,by omega⟩,fun g=>?_⟩⟩
 have hn1:((l.length:Nat):Int).toNat=l.length:=by omega
 rw[hn1,rep9]
 refine zj07 (vs:=[.slice B l.length bc,.int .i64 (-1)]) rfl (R:=fun W v W'=>∃ (A:Option Addr) (o:List Bool),v=.slice A 1025 1025∧OInv l (-1) o∧Closed l (-1) o∧World.ownsB W' W.heap.size 179 2 (.slice A 1025 1025) 1025 (bsVq o)∧Fresh W W') (fun W hW=>come122 l B bc (-1) W hl (hB.keep hW.fresh') (hG.keep hW.fresh')) fun W v W' hW ⟨A,oc,hv,hoi,hoc,hown,hk⟩=>?_
 obtain⟨A',c',e1,e2,e5,_⟩:=hW.gain hown hk
 injection e1 with e3 _ e4
 subst e3; subst e4; subst hv
 refine⟨.own 1 0,_,?_,e2,e5,?_⟩
 ·simp only[Is]; exact⟨_,_,_,_,_,_,_,rfl,Nat.le_refl _,⟨_,_,_,rfl⟩,fun _=>rfl⟩
 (refine Y_go 600 ?_; dsimp only[go_sem,Nat.reduceBEq])
 refine lookA (bc:=bc) hl hB hG g A oc hoi hoc (fun o ht F rr hF=>?_) _ (by (simp only[go_sem,lk,Nat.reduceBEq,Nat.reduceLT,Nat.reduceAdd] <;> try simp))
 refine lookB (bc:=bc) hl hB hG g o ht.len ht.c7 (fun o2 h1 h2 h3 F rr hF=>?_) F rr hF
 have hok:FoundOk l (ans o2 l.length 8):=ans_ok hl fun i x hx n n1 n8=>by
  have hil:=zj4d hx
  by_cases e7:n=7
  ·subst e7
   rw[h3 i x hx]
   unfold Col7 TellB
   constructor
   ·exact fun h=>.inr (.inl ⟨rfl,h⟩)
   ·rintro (⟨h,_⟩ | ⟨_,h⟩ | ⟨b,_,h | ⟨h,_⟩ | ⟨h,_⟩⟩)
    ·omega
    ·exact h
    ·unfold wrongI at h
     repeat' (split at h)
     all_goals omega
    ·omega
    ·omega
  ·rw[h2 _ (by omega),ht.lo i n hil (by omega) e7]
   unfold RowA TellB None8 ColA
   constructor
   ·rintro ⟨y,hy,h⟩
    rw[hx] at hy; injection hy with hy; subst hy
    rcases h with⟨h,h'⟩ | ⟨b,hb,h | ⟨h,h'⟩ | ⟨h,h'⟩⟩
    ·exact .inl ⟨by omega,h'⟩
    ·exact .inr (.inr ⟨b,hb,.inl h⟩)
    ·exact .inr (.inr ⟨b,hb,.inr (.inl ⟨by omega,h'⟩)⟩)
    ·exact .inr (.inr ⟨b,hb,.inr (.inr ⟨by omega,h'⟩)⟩)
   ·rintro (⟨h,h'⟩ | ⟨h,_⟩ | ⟨b,hb,h | ⟨h,h'⟩ | ⟨h,h'⟩⟩)
    ·exact⟨x,hx,.inl ⟨by omega,h'⟩⟩
    ·omega
    ·exact⟨x,hx,.inr ⟨b,hb,.inl h⟩⟩
    ·exact⟨x,hx,.inr ⟨b,hb,.inr (.inl ⟨by omega,h'⟩)⟩⟩
    ·exact⟨x,hx,.inr ⟨b,hb,.inr (.inr ⟨by omega,h'⟩)⟩⟩
 exact lookC (bc:=bc) hl g o2 h1 (fun A c W' h h'=>hR _ _ ⟨A,c,_,hok,rfl,h,h'⟩) F rr hF
end Go.Proofs.YtlbiogokpadaoaaGreatDoor
