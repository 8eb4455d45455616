/- lint.Look. -/
import Derived.Test.YtgghmmjoplddbaaGreatDoorZLpCmp
import Derived.Test.YtgghmmjoplddbaaGreatDoorZBgSrt1
set_option linter.unusedSimpArgs false
set_option linter.unusedVariables false
set_option linter.unnecessarySimpa false
namespace Go.Proofs.YtgghmmjoplddbaaGreatDoor
open Go Go.Sx Go.Isa Go.Lint
open Nat (reduceAdd reduceLT)
set_option maxRecDepth 100000
def insJ (j:Nat):Bool:=decide (j=1)
def h7 (m:Go.Lint.Met) (x:In) (i:Int) (b:Bool):Bool:=match get m (i,b) with
 | some u=>legalB x && decide (readsB x &&& ~~~ u ≠ 0#8)
 | none=>false
def e7 (m:Go.Lint.Met) (x:In) (i:Int):Nat→List (Int × Int)
 | 0=>[]
 | j+1=>e7 m x i j++(if h7 m x i (insJ j)=true then [(7,i)] else [])
def rchJ (m:Go.Lint.Met) (i:Int):Nat→Bool
 | 0=>false
 | j+1=>rchJ m i j || (get m (i,insJ j)).isSome
def e78 (m:Go.Lint.Met) (x:In) (i:Int):List (Int × Int):=e7 m x i 2++(if rchJ m i 2=true then [] else [(8,i)])
def ext78 (m:Go.Lint.Met):List In→Nat→List (Int × Int)
 | _,0=>[]
 | l,i+1=>ext78 m l i++(match l[i]? with | some x=>e78 m x i | none=>[])
theorem e7_len (m:Go.Lint.Met) (x:In) (i:Int):∀ j,(e7 m x i j).length≤j
 | 0=>Nat.le_refl _
 | j+1=>by
  have:=e7_len m x i j
  simp only[e7,List.length_append]
  split <;> simp <;> omega
theorem e78_len (m:Go.Lint.Met) (x:In) (i:Int):(e78 m x i).length≤3:=by
 have:=e7_len m x i 2
 simp only[e78,List.length_append]
 split <;> simp <;> omega
theorem ext78_len (m:Go.Lint.Met) (l:List In):∀ i,(ext78 m l i).length≤3*i
 | 0=>Nat.le_refl _
 | i+1=>by
  have:=ext78_len m l i
  simp only[ext78,List.length_append]
  split
  ·rename_i x _; have:=e78_len m x i; omega
  ·simp; omega
theorem _root_.Go.Sx.Rep.push0 {E:Env} {s:SS} {a:Act} {W:World} (rep:Rep E s a W) (t:TypeId) (sz:Nat):Rep E { F:=s.F,H:=s.H++[.own t 0 sz none 0 0 []] } a W:=by
 have hx:=HExt.push s.H (.own t 0 sz none 0 0 [])
 have hh:HeapOk E (s.H++[.own t 0 sz none 0 0 []]) W:=rep.heap.pushG (row:=none) (Nat.le_refl _) rfl rfl rfl (fun _ _ _=>rfl) (fun _ e=>by cases e) (fun g hg=>by simp[SO.fp] at hg) ⟨by simp,.inl ⟨rfl,rfl,fun a h=>by cases h⟩⟩
 exact rep.ext hx hh
theorem isl_look {H:List SO} {x y:SV} (hi:nth H 2=some (.own 33 0 2 none 0 0 [])):∀ vs,IsL H [x,y,.val (.slice none 0 0)] vs→IsL H [x,y,.own 2 0] vs:=by
 intro vs h
 simp only[IsL] at h ⊢
 obtain⟨v1,r1,i1,⟨v2,r2,i2,⟨v3,r3,i3,e3,e4⟩,e5⟩,e6⟩:=h
 refine⟨v1,r1,i1,⟨v2,r2,i2,⟨v3,r3,?_,e3,e4⟩,e5⟩,e6⟩
 simp only[Is] at i3 ⊢
 exact⟨_,_,_,_,_,_,_,hi,Nat.le_refl _,⟨_,_,_,i3⟩,fun _=>i3⟩
structure LW where
 i:Nat
 A:Option Addr
 c:Nat
structure LJ where
 j:Nat
 A:Option Addr
 c:Nat
theorem look22 (l:List In) (B:Option Addr) (bc:Nat) (w:World) (hl:l.length≤1024) (hB:RowAt w B (cellsI l)) (hG:ShAt w) :
  CallsV Tryz.prog 7 [.slice B l.length bc] w fun v w'=>∃ (m:Go.Lint.Met) (fs:List (Int × Int)) (A:Option Addr) (c:Nat),Fin l m fs∧v=.tuple #[.slice A (ddp (srt (fs++ext78 m l l.length))).length c,.int .i64 0] ∧
   World.ownsB w' w.heap.size 33 2 (.slice A (ddp (srt (fs++ext78 m l l.length))).length c) (ddp (srt (fs++ext78 m l l.length))).length (fsV (ddp (srt (fs++ext78 m l l.length))))∧Fresh w w':=by
 refine zj05 (keep:=K7) (nt:=81) (svs:=[.val (.slice B l.length bc)]) Tryz.func7 x7 n7 (by simp) (by simp[IsL,Is]) fun R hR=>?_
 (refine Y_go 600 ?_; dsimp only[go_sem,reduceAdd,Nat.reduceBEq])
 refine⟨fun h=>?_,fun h=>?_⟩
 ·have:=of_decide_eq_true h; omega
 intro gm gl
 have hB0:RowE ⟨w,w.heap.size,[],81,[]⟩ B (cellsI l):=hB.toE (by simp) 81 []
 have hG0:RowE ⟨w,w.heap.size,[],81,[]⟩ (some ⟨0,0,none⟩) shL:=RowAt.toE hG (by simp) 81 []
 refine G.le (E':=⟨w,w.heap.size,[],81,[]⟩) (s':={ F:=[(19,.ptr 1 0),(0,.val (.slice B l.length bc)),(4,.ptr 1 0)],H:=lkE gm gl B l.length bc [] 0 none 0 0 [] }) rfl (fun a W rep=>?_) ?_
 ·have rep1:=(rep.push0 33 2).cellsTo 1 (l':=[.val (.slice B l.length bc),.mp 0,.own 2 0]) rfl (isl_look rfl)
  exact rep1.le (by (simp only[go_sem,lk,Nat.reduceBEq,reduceLT,reduceAdd] <;> try simp)) (by (simp only[go_sem,lk,Nat.reduceBEq,reduceLT,reduceAdd] <;> try simp); exact rfl)
 refine zj0j (vs:=[.pointer (some ⟨gl,0,none⟩)]) rfl (R:=fun W v W'=>v=.tuple #[]∧∃ (m:Go.Lint.Met) (fs:List (Int × Int)) (Af':Option Addr) (cf':Nat),(Fin l m fs∧Rg m∧fs.length≤50000000)∧HeapOk ⟨w,w.heap.size,[],81,[]⟩ (lkE gm gl B l.length bc m 1 Af' fs.length cf' (fsV fs)) W')
  (fun W hW=>walk39 gm gl B bc l none 0 W hl hB0 hG0 hW) fun W v W' hW ⟨hv,m,fs,A0,c0,⟨hfin,hrg,hfl⟩,hW'⟩=>?_
 subst hv
 refine⟨.tup [],_,by simp[Is,IsL],lkE_ext (by omega),hW',?_⟩
 refine zj0n ?_
 (refine Y_go 600 ?_; dsimp only[go_sem,lkE,Nat.reduceBEq])
 refine zj0m (α:=LW) (fun x=>x.i≤l.length) (fun _=>⟨w,w.heap.size,[],81,[]⟩) (fun x=>{ F:=[(4,.ptr 1 0),(21,.val (.slice B l.length bc)),(22,.val (.int .i64 l.length)),(23,.val (.int .i64 (x.i:Int)))],H:=lkE gm gl B l.length bc m 0 x.A (fs++ext78 m l x.i).length x.c (fsV (fs++ext78 m l x.i)) }) (fun x=>l.length - x.i) (fun _=>rfl) ?start ?round
 case start =>
  intro a W rep
  refine⟨⟨0,A0,c0⟩,by simp,rep.res.le (by (simp only[go_sem,lk,Nat.reduceBEq,reduceLT,reduceAdd] <;> try simp)) ?_⟩
  simp only[lkE]
  (simp only[go_sem,lk,Nat.reduceBEq,reduceLT,reduceAdd] <;> try simp)
  simp[ext78]
 case round =>
  rintro ⟨i,A,c⟩ hi I again
  have hi:i≤l.length:=hi
  have hel:=ext78_len m l i
  have hnl:(fs++ext78 m l i).length≤60000000:=by rw[List.length_append]; omega
  (refine Y_go 10 ?_; dsimp only[go_sem,lkE,Nat.reduceBEq,Y_0])
  refine⟨fun hlt=>?_,fun hge=>?_⟩
  ·have hil:i < l.length:=by have:=of_decide_eq_true hlt; omega
   have hx:l[i]? = some l[i]:=List.getElem?_eq_getElem hil
   have cl:∀ k v,k < 5→(l[i]).cells[k]? = some v→CellAt ⟨w,w.heap.size,[],81,[]⟩ B (i*5+k) v:=fun k v hk hv=>hB0.cell (by rw[zj25 l hil hk]; exact hv)
   have hBs:B.isSome=true:=hB0.isSome (j:=i*5) (by rw[zj1j]; omega)
   (refine Y_go 600 ?_; dsimp only[go_sem,Nat.reduceBEq,reduceAdd,Nat.reduceMul])
   refine⟨⟨by omega,by omega,hBs⟩,_,cl 0 _ (by omega) rfl,_,cl 1 _ (by omega) rfl,_,cl 2 _ (by omega) rfl,_,cl 3 _ (by omega) rfl,_,cl 4 _ (by omega) rfl,fun gx=>?_⟩
   intro gb
   generalize hxx:l[i]=x at *
   refine zj0m (α:=LJ) (fun y=>y.j≤2) (fun _=>⟨w,w.heap.size,[],81,[]⟩) (fun y=>{ F:=[(4,.ptr 1 0),(5,.val (.int .i64 (i:Int))),(6,.ptr 3 0),(7,bsv (rchJ m (i:Int) y.j)),(21,.val (.slice B l.length bc)),(22,.val (.int .i64 l.length)),(23,.val (.int .i64 (i:Int))),(28,.slc 4 0 2 2),(29,.val (.int .i64 2)),(30,.val (.int .i64 (y.j:Int)))],H:=lkE gm gl B l.length bc m 0 y.A (fs++ext78 m l i++e7 m x i y.j).length y.c (fsV (fs++ext78 m l i++e7 m x i y.j))++[.cells gx 47 (In.sv x),.row gb 4 [.bool false,.bool true]] }) (fun y=>2 - y.j) (fun _=>rfl) ?start2 ?round2
   case start2 =>
    intro a W rep
    refine⟨⟨0,A,c⟩,by simp,(rep.torow 4 rfl rfl).le (by simp only[rchJ,bsv]; (simp only[go_sem,lk,Nat.reduceBEq,reduceLT,reduceAdd] <;> try simp)) ?_⟩
    simp only[lkE,In.sv]
    (simp only[go_sem,lk,Nat.reduceBEq,reduceLT,reduceAdd] <;> try simp)
    simp[e7]
   case round2 =>
    rintro ⟨j,A,c⟩ hj I2 again2
    have hj:j≤2:=hj
    have hel2:=e7_len m x i j
    have hnl2:(fs++ext78 m l i++e7 m x i j).length≤60000010:=by rw[List.length_append]; omega
    have hfit:fitV [.int .i64,.bool] (spotV ((i:Int),insJ j))=true∧∀ p ∈ metV m,fitV [.int .i64,.bool] p.1=true:=⟨zj4a (by simp) (by simp only; omega),fit_met hrg⟩
    have hget:=zj49 m ((i:Int),insJ j)
    have hrj:rchJ m i (j+1)=(rchJ m i j || (get m (i,insJ j)).isSome):=rfl
    have h77:e7 m x i (j+1)=e7 m x i j++(if h7 m x i (insJ j)=true then [(7,(i:Int))] else []):=rfl
    have hb:j < 2→[Value.bool false,Value.bool true][0+(j:Int).toNat*1]? = some (.bool (insJ j)):=by
     intro h
     have:j=0∨j=1:=by omega
     rcases this with rfl | rfl <;> rfl
    cases hd:rchJ m (i:Int) j with
    | false =>
     simp only[bsv]
     (refine Y_go 10 ?_; dsimp only[go_sem,lkE,Nat.reduceBEq,Y_0])
     refine⟨fun hlt2=>?_,fun hge2=>?_⟩
     ·have hlt2:j < 2:=by have:=of_decide_eq_true hlt2; omega
      cases hg:get m ((i:Int),insJ j) with
      | none =>
       rw[hg] at hget hrj
       have hE:e7 m x i (j+1)=e7 m x i j:=by
        rw[h77]; simp[h7,hg]
       have hr1:rchJ m (i:Int) (j+1)=false:=by rw[hrj,hd]; rfl
       (refine Y_go 22 ?_; dsimp only[go_sem,Nat.reduceBEq,reduceAdd,Y_0])
       refine⟨⟨by omega,by omega⟩,insJ j,hb hlt2,hfit,_,hget,.val (.int .u8 0),rfl,?_⟩
       refine G.le (E':=⟨w,w.heap.size,[],81,[]⟩) (s':={ F:=[(44,.bf),(43,.val (.int .u8 0)),(4,.ptr 1 0),(5,.val (.int .i64 (i:Int))),(6,.ptr 3 0),(7,.bf),(21,.val (.slice B l.length bc)),(22,.val (.int .i64 l.length)),(23,.val (.int .i64 (i:Int))),(28,.slc 4 0 2 2),(29,.val (.int .i64 2)),(30,.val (.int .i64 (j:Int)))],H:=lkE gm gl B l.length bc m 0 A (fs++ext78 m l i++e7 m x i j).length c (fsV (fs++ext78 m l i++e7 m x i j))++[.cells gx 47 (In.sv x),.row gb 4 [.bool false,.bool true]] }) rfl (fun a W rep=>?_) ?_
       ·exact (zj43 44 rep rfl).le (by simp only[bsv,Option.map,Option.isSome]; (simp only[go_sem,lk,Nat.reduceBEq,reduceLT,reduceAdd] <;> try simp)) (by simp only[lkE,In.sv]; (simp only[go_sem,lk,Nat.reduceBEq,reduceLT,reduceAdd] <;> try simp))
       (refine Y_go 600 ?_; dsimp only[go_sem,lkE,In.sv,Nat.reduceBEq])
       refine⟨((j+1:Nat):Int),ArOk.to (by omega) (by omega) (by omega),zj01 fun a W rep=>again2 ⟨j+1,A,c⟩ (by show j+1≤2; omega) (by show 2 - (j+1) < 2 - j; omega) a W (rep.res.le (by simp only[hr1,bsv]; (simp only[go_sem,lk,Nat.reduceBEq,reduceLT,reduceAdd] <;> try simp)) ?_)⟩
       simp only[lkE,In.sv]
       rw[hE]
       (simp only[go_sem,lk,Nat.reduceBEq,reduceLT,reduceAdd] <;> try simp)
      | some u =>
       rw[hg] at hget hrj
       have hr1:rchJ m (i:Int) (j+1)=true:=by rw[hrj,hd]; rfl
       (refine Y_go 22 ?_; dsimp only[go_sem,Nat.reduceBEq,reduceAdd,Y_0])
       refine⟨⟨by omega,by omega⟩,insJ j,hb hlt2,hfit,_,hget,.val (.int .u8 u.toNat),rfl,?_⟩
       refine G.le (E':=⟨w,w.heap.size,[],81,[]⟩) (s':={ F:=[(44,.bt),(43,.val (.int .u8 u.toNat)),(4,.ptr 1 0),(5,.val (.int .i64 (i:Int))),(6,.ptr 3 0),(7,.bf),(21,.val (.slice B l.length bc)),(22,.val (.int .i64 l.length)),(23,.val (.int .i64 (i:Int))),(28,.slc 4 0 2 2),(29,.val (.int .i64 2)),(30,.val (.int .i64 (j:Int)))],H:=lkE gm gl B l.length bc m 0 A (fs++ext78 m l i++e7 m x i j).length c (fsV (fs++ext78 m l i++e7 m x i j))++[.cells gx 47 (In.sv x),.row gb 4 [.bool false,.bool true]] }) rfl (fun a W rep=>?_) ?_
       ·exact (zj43 44 rep rfl).le (by simp only[bsv,Option.map,Option.isSome]; (simp only[go_sem,lk,Nat.reduceBEq,reduceLT,reduceAdd] <;> try simp)) (by simp only[lkE,In.sv]; (simp only[go_sem,lk,Nat.reduceBEq,reduceLT,reduceAdd] <;> try simp))
       (refine Y_go 600 ?_; dsimp only[go_sem,lkE,In.sv,Nat.reduceBEq,reduceAdd])
       cases hlg:legalB x with
       | false =>
        have hE:e7 m x i (j+1)=e7 m x i j:=by
         rw[h77]; simp[h7,hg,hlg]
        refine zj00 (vs:=[In.val x]) rfl (fun W hW=>zj27 x W (hG0.at hW)) fun v hv=>⟨.bf,by rw[hv,hlg]; simp[Is],?_⟩
        (refine Y_go 600 ?_; dsimp only[go_sem,Nat.reduceBEq])
        refine⟨((j+1:Nat):Int),ArOk.to (by omega) (by omega) (by omega),zj01 fun a W rep=>again2 ⟨j+1,A,c⟩ (by show j+1≤2; omega) (by show 2 - (j+1) < 2 - j; omega) a W (rep.res.le (by simp only[hr1,bsv]; (simp only[go_sem,lk,Nat.reduceBEq,reduceLT,reduceAdd] <;> try simp)) ?_)⟩
        simp only[lkE,In.sv]
        rw[hE]
        (simp only[go_sem,lk,Nat.reduceBEq,reduceLT,reduceAdd] <;> try simp)
       | true =>
        refine zj00 (vs:=[In.val x]) rfl (fun W hW=>zj27 x W (hG0.at hW)) fun v hv=>⟨.bt,by rw[hv,hlg]; simp[Is],?_⟩
        (refine Y_go 600 ?_; dsimp only[go_sem,Nat.reduceBEq,reduceAdd])
        refine zj00 (vs:=[In.val x]) rfl (fun W hW=>reads40 x hlg W) fun v hv=>⟨.val (.int .u8 (readsB x).toNat),by rw[hv]; simp[Is,u8V],?_⟩
        (refine Y_go 600 ?_; dsimp only[go_sem,Nat.reduceBEq])
        refine⟨_,andn8 _ _,fun hne=>?_,fun heq=>?_⟩
        ·have hh:h7 m x i (insJ j)=true:=by
          simp only[h7,hg,hlg,Bool.true_and,decide_eq_true_eq]
          intro e
          rw[e] at hne
          simp at hne
         have hE:e7 m x i (j+1)=e7 m x i j++[(7,(i:Int))]:=by
          rw[h77,if_pos hh]
         refine zj0a (C:=cxOf Tryz.prog Tryz.f7 K7 T7 R) rfl (gm:=gm) (gl:=gl) (B:=B) (bn:=l.length) (bc:=bc) (m:=m) (k:=0) (A:=A) (n:=(fs++ext78 m l i++e7 m x i j).length) (c:=c) (xs:=fsV (fs++ext78 m l i++e7 m x i j)) (cd:=7) (p:=i) (r:=[.cells gx 47 (In.sv x),.row gb 4 [.bool false,.bool true]]) (by omega) ?_ fun A' c'=>zj0n ?_
         ·rfl
         (refine Y_go 600 ?_; dsimp only[go_sem,reduceAdd,lkE,In.sv,Nat.reduceBEq])
         refine⟨((j+1:Nat):Int),ArOk.to (by omega) (by omega) (by omega),zj01 fun a W rep=>again2 ⟨j+1,A',c'⟩ (by show j+1≤2; omega) (by show 2 - (j+1) < 2 - j; omega) a W (rep.res.le (by simp only[hr1,bsv]; (simp only[go_sem,lk,Nat.reduceBEq,reduceLT,reduceAdd] <;> try simp)) ?_)⟩
         simp only[lkE,In.sv]
         rw[hE]
         (simp only[go_sem,lk,Nat.reduceBEq,reduceLT,reduceAdd] <;> try simp)
         simp only[zj33,List.append_assoc,List.length_append,List.length_cons,List.length_nil]; exact⟨by omega,rfl⟩
        ·have hh:¬ h7 m x i (insJ j)=true:=by
          simp only[h7,hg,hlg,Bool.true_and,decide_eq_true_eq]
          intro e
          have h0:(readsB x &&& ~~~u).toNat=0:=by simpa using heq
          exact e (BitVec.eq_of_toNat_eq (by rw[h0]; rfl))
         have hE:e7 m x i (j+1)=e7 m x i j:=by
          rw[h77,if_neg hh]; simp
         refine⟨((j+1:Nat):Int),ArOk.to (by omega) (by omega) (by omega),zj01 fun a W rep=>again2 ⟨j+1,A,c⟩ (by show j+1≤2; omega) (by show 2 - (j+1) < 2 - j; omega) a W (rep.res.le (by simp only[hr1,bsv]; (simp only[go_sem,lk,Nat.reduceBEq,reduceLT,reduceAdd] <;> try simp)) ?_)⟩
         simp only[lkE,In.sv]
         rw[hE]
         (simp only[go_sem,lk,Nat.reduceBEq,reduceLT,reduceAdd] <;> try simp)
     ·have hj2:j=2:=by have:=of_decide_eq_false hge2; omega
      subst hj2
      (refine Y_go 600 ?_; dsimp only[go_sem,Nat.reduceBEq])
      refine zj0a (C:=cxOf Tryz.prog Tryz.f7 K7 T7 R) rfl (gm:=gm) (gl:=gl) (B:=B) (bn:=l.length) (bc:=bc) (m:=m) (k:=0) (A:=A) (n:=(fs++ext78 m l i++e7 m x i 2).length) (c:=c) (xs:=fsV (fs++ext78 m l i++e7 m x i 2)) (cd:=8) (p:=i) (r:=[.cells gx 47 (In.sv x),.row gb 4 [.bool false,.bool true]]) (by omega) ?_ fun A' c'=>zj0n ?_
      ·rfl
      (refine Y_go 600 ?_; dsimp only[go_sem,reduceAdd,lkE,Nat.reduceBEq])
      have hE:fs++ext78 m l (i+1)=fs++ext78 m l i++e7 m x i 2++[(8,(i:Int))]:=by
       simp only[ext78,hx,e78,hd]
       simp
      refine⟨((i+1:Nat):Int),ArOk.to (by omega) (by omega) (by omega),zj01 fun a W rep=>again ⟨i+1,A',c'⟩ (by show i+1≤_; omega) (by show l.length - (i+1) < l.length - i; omega) a W (rep.res.le (by (simp only[go_sem,lk,Nat.reduceBEq,reduceLT,reduceAdd] <;> try simp)) ?_)⟩
      simp only[lkE]
      rw[hE]
      (simp only[go_sem,lk,Nat.reduceBEq,reduceLT,reduceAdd] <;> try simp)
      simp only[zj33,List.append_assoc,List.length_append,List.length_cons,List.length_nil]; exact⟨by omega,rfl⟩
    | true =>
     simp only[bsv]
     (refine Y_go 10 ?_; dsimp only[go_sem,lkE,Nat.reduceBEq,Y_0])
     refine⟨fun hlt2=>?_,fun hge2=>?_⟩
     ·have hlt2:j < 2:=by have:=of_decide_eq_true hlt2; omega
      cases hg:get m ((i:Int),insJ j) with
      | none =>
       rw[hg] at hget hrj
       have hE:e7 m x i (j+1)=e7 m x i j:=by
        rw[h77]; simp[h7,hg]
       have hr1:rchJ m (i:Int) (j+1)=true:=by rw[hrj,hd]; rfl
       (refine Y_go 22 ?_; dsimp only[go_sem,Nat.reduceBEq,reduceAdd,Y_0])
       refine⟨⟨by omega,by omega⟩,insJ j,hb hlt2,hfit,_,hget,.val (.int .u8 0),rfl,?_⟩
       refine G.le (E':=⟨w,w.heap.size,[],81,[]⟩) (s':={ F:=[(44,.bf),(43,.val (.int .u8 0)),(4,.ptr 1 0),(5,.val (.int .i64 (i:Int))),(6,.ptr 3 0),(7,.bt),(21,.val (.slice B l.length bc)),(22,.val (.int .i64 l.length)),(23,.val (.int .i64 (i:Int))),(28,.slc 4 0 2 2),(29,.val (.int .i64 2)),(30,.val (.int .i64 (j:Int)))],H:=lkE gm gl B l.length bc m 0 A (fs++ext78 m l i++e7 m x i j).length c (fsV (fs++ext78 m l i++e7 m x i j))++[.cells gx 47 (In.sv x),.row gb 4 [.bool false,.bool true]] }) rfl (fun a W rep=>?_) ?_
       ·exact (zj43 44 rep rfl).le (by simp only[bsv,Option.map,Option.isSome]; (simp only[go_sem,lk,Nat.reduceBEq,reduceLT,reduceAdd] <;> try simp)) (by simp only[lkE,In.sv]; (simp only[go_sem,lk,Nat.reduceBEq,reduceLT,reduceAdd] <;> try simp))
       (refine Y_go 600 ?_; dsimp only[go_sem,lkE,In.sv,Nat.reduceBEq])
       refine⟨((j+1:Nat):Int),ArOk.to (by omega) (by omega) (by omega),zj01 fun a W rep=>again2 ⟨j+1,A,c⟩ (by show j+1≤2; omega) (by show 2 - (j+1) < 2 - j; omega) a W (rep.res.le (by simp only[hr1,bsv]; (simp only[go_sem,lk,Nat.reduceBEq,reduceLT,reduceAdd] <;> try simp)) ?_)⟩
       simp only[lkE,In.sv]
       rw[hE]
       (simp only[go_sem,lk,Nat.reduceBEq,reduceLT,reduceAdd] <;> try simp)
      | some u =>
       rw[hg] at hget hrj
       have hr1:rchJ m (i:Int) (j+1)=true:=by rw[hrj,hd]; rfl
       (refine Y_go 22 ?_; dsimp only[go_sem,Nat.reduceBEq,reduceAdd,Y_0])
       refine⟨⟨by omega,by omega⟩,insJ j,hb hlt2,hfit,_,hget,.val (.int .u8 u.toNat),rfl,?_⟩
       refine G.le (E':=⟨w,w.heap.size,[],81,[]⟩) (s':={ F:=[(44,.bt),(43,.val (.int .u8 u.toNat)),(4,.ptr 1 0),(5,.val (.int .i64 (i:Int))),(6,.ptr 3 0),(7,.bt),(21,.val (.slice B l.length bc)),(22,.val (.int .i64 l.length)),(23,.val (.int .i64 (i:Int))),(28,.slc 4 0 2 2),(29,.val (.int .i64 2)),(30,.val (.int .i64 (j:Int)))],H:=lkE gm gl B l.length bc m 0 A (fs++ext78 m l i++e7 m x i j).length c (fsV (fs++ext78 m l i++e7 m x i j))++[.cells gx 47 (In.sv x),.row gb 4 [.bool false,.bool true]] }) rfl (fun a W rep=>?_) ?_
       ·exact (zj43 44 rep rfl).le (by simp only[bsv,Option.map,Option.isSome]; (simp only[go_sem,lk,Nat.reduceBEq,reduceLT,reduceAdd] <;> try simp)) (by simp only[lkE,In.sv]; (simp only[go_sem,lk,Nat.reduceBEq,reduceLT,reduceAdd] <;> try simp))
       (refine Y_go 600 ?_; dsimp only[go_sem,lkE,In.sv,Nat.reduceBEq,reduceAdd])
       cases hlg:legalB x with
       | false =>
        have hE:e7 m x i (j+1)=e7 m x i j:=by
         rw[h77]; simp[h7,hg,hlg]
        refine zj00 (vs:=[In.val x]) rfl (fun W hW=>zj27 x W (hG0.at hW)) fun v hv=>⟨.bf,by rw[hv,hlg]; simp[Is],?_⟩
        (refine Y_go 600 ?_; dsimp only[go_sem,Nat.reduceBEq])
        refine⟨((j+1:Nat):Int),ArOk.to (by omega) (by omega) (by omega),zj01 fun a W rep=>again2 ⟨j+1,A,c⟩ (by show j+1≤2; omega) (by show 2 - (j+1) < 2 - j; omega) a W (rep.res.le (by simp only[hr1,bsv]; (simp only[go_sem,lk,Nat.reduceBEq,reduceLT,reduceAdd] <;> try simp)) ?_)⟩
        simp only[lkE,In.sv]
        rw[hE]
        (simp only[go_sem,lk,Nat.reduceBEq,reduceLT,reduceAdd] <;> try simp)
       | true =>
        refine zj00 (vs:=[In.val x]) rfl (fun W hW=>zj27 x W (hG0.at hW)) fun v hv=>⟨.bt,by rw[hv,hlg]; simp[Is],?_⟩
        (refine Y_go 600 ?_; dsimp only[go_sem,Nat.reduceBEq,reduceAdd])
        refine zj00 (vs:=[In.val x]) rfl (fun W hW=>reads40 x hlg W) fun v hv=>⟨.val (.int .u8 (readsB x).toNat),by rw[hv]; simp[Is,u8V],?_⟩
        (refine Y_go 600 ?_; dsimp only[go_sem,Nat.reduceBEq])
        refine⟨_,andn8 _ _,fun hne=>?_,fun heq=>?_⟩
        ·have hh:h7 m x i (insJ j)=true:=by
          simp only[h7,hg,hlg,Bool.true_and,decide_eq_true_eq]
          intro e
          rw[e] at hne
          simp at hne
         have hE:e7 m x i (j+1)=e7 m x i j++[(7,(i:Int))]:=by
          rw[h77,if_pos hh]
         refine zj0a (C:=cxOf Tryz.prog Tryz.f7 K7 T7 R) rfl (gm:=gm) (gl:=gl) (B:=B) (bn:=l.length) (bc:=bc) (m:=m) (k:=0) (A:=A) (n:=(fs++ext78 m l i++e7 m x i j).length) (c:=c) (xs:=fsV (fs++ext78 m l i++e7 m x i j)) (cd:=7) (p:=i) (r:=[.cells gx 47 (In.sv x),.row gb 4 [.bool false,.bool true]]) (by omega) ?_ fun A' c'=>zj0n ?_
         ·rfl
         (refine Y_go 600 ?_; dsimp only[go_sem,reduceAdd,lkE,In.sv,Nat.reduceBEq])
         refine⟨((j+1:Nat):Int),ArOk.to (by omega) (by omega) (by omega),zj01 fun a W rep=>again2 ⟨j+1,A',c'⟩ (by show j+1≤2; omega) (by show 2 - (j+1) < 2 - j; omega) a W (rep.res.le (by simp only[hr1,bsv]; (simp only[go_sem,lk,Nat.reduceBEq,reduceLT,reduceAdd] <;> try simp)) ?_)⟩
         simp only[lkE,In.sv]
         rw[hE]
         (simp only[go_sem,lk,Nat.reduceBEq,reduceLT,reduceAdd] <;> try simp)
         simp only[zj33,List.append_assoc,List.length_append,List.length_cons,List.length_nil]; exact⟨by omega,rfl⟩
        ·have hh:¬ h7 m x i (insJ j)=true:=by
          simp only[h7,hg,hlg,Bool.true_and,decide_eq_true_eq]
          intro e
          have h0:(readsB x &&& ~~~u).toNat=0:=by simpa using heq
          exact e (BitVec.eq_of_toNat_eq (by rw[h0]; rfl))
         have hE:e7 m x i (j+1)=e7 m x i j:=by
          rw[h77,if_neg hh]; simp
         refine⟨((j+1:Nat):Int),ArOk.to (by omega) (by omega) (by omega),zj01 fun a W rep=>again2 ⟨j+1,A,c⟩ (by show j+1≤2; omega) (by show 2 - (j+1) < 2 - j; omega) a W (rep.res.le (by simp only[hr1,bsv]; (simp only[go_sem,lk,Nat.reduceBEq,reduceLT,reduceAdd] <;> try simp)) ?_)⟩
         simp only[lkE,In.sv]
         rw[hE]
         (simp only[go_sem,lk,Nat.reduceBEq,reduceLT,reduceAdd] <;> try simp)
     ·have hj2:j=2:=by have:=of_decide_eq_false hge2; omega
      subst hj2
      (refine Y_go 600 ?_; dsimp only[go_sem,Nat.reduceBEq])
      have hE:fs++ext78 m l (i+1)=fs++ext78 m l i++e7 m x i 2:=by
       simp only[ext78,hx,e78,hd]
       simp
      refine⟨((i+1:Nat):Int),ArOk.to (by omega) (by omega) (by omega),zj01 fun a W rep=>again ⟨i+1,A,c⟩ (by show i+1≤_; omega) (by show l.length - (i+1) < l.length - i; omega) a W (rep.res.le (by (simp only[go_sem,lk,Nat.reduceBEq,reduceLT,reduceAdd] <;> try simp)) ?_)⟩
      simp only[lkE]
      rw[hE]
      (simp only[go_sem,lk,Nat.reduceBEq,reduceLT,reduceAdd] <;> try simp)
  ·have hil:i=l.length:=by have:=of_decide_eq_false hge; omega
   subst hil
   (refine Y_go 600 ?_; dsimp only[go_sem,Nat.reduceBEq,reduceAdd])
   have hns:(fs++ext78 m l l.length).length≤1000000000:=by omega
   refine zj0j (vs:=[.slice A (fs++ext78 m l l.length).length c,.func (.func 23) #[] #[]]) rfl (fun W hW=>sort42 (i:=2) hW rfl hns) fun W v W' hW ⟨hv,hW'⟩=>⟨.tup [],_,by rw[hv]; simp[Is,IsL],HExt.setOwn (i:=2) rfl (Nat.le_refl _) (fun _=>⟨rfl,rfl,rfl⟩),hW',?_⟩
   have hsl:(fs++ext78 m l l.length).length=(srt (fs++ext78 m l l.length)).length:=(List.length_mergeSort _).symm
   (refine Y_go 600 ?_; dsimp only[go_sem,Nat.reduceBEq,reduceAdd])
   rw[hsl]
   refine zj0j (vs:=[.slice A (srt (fs++ext78 m l l.length)).length c]) rfl (fun W hW=>compact46 (i:=2) hW rfl (by rw[← hsl]; exact hns)) fun W v W' hW ⟨hv,hx,hW'⟩=>⟨.own 2 1,_,by rw[hv]; simp only[Is]; exact⟨_,_,_,_,_,_,_,rfl,Nat.le_refl _,⟨_,_,_,rfl⟩,fun _=>rfl⟩,hx,hW',?_⟩
   (refine Y_go 600 ?_; dsimp only[go_sem,reduceAdd,Nat.reduceBEq])
   refine zj03 (vs:=[.slice A (ddp (srt (fs++ext78 m l l.length))).length c,.int .i64 0]) r7 rfl rfl fun W' hW'=>hR _ _ ⟨m,fs,A,c,hfin,rfl,hW'.owns (i:=2) rfl,hW'.fresh'⟩
open Go.Sort Go.Proofs
def lt2 (x y:Int × Int):Prop:=x.1 < y.1∨x.1=y.1∧x.2 < y.2
def le2 (x y:Int × Int):Prop:=x.1 < y.1∨x.1=y.1∧x.2≤y.2
theorem leF2_is (x y:Int × Int):leF2 x y=true ↔ le2 x y:=by
 unfold leF2 le2
 rw[zj4y]
 simp
 omega
theorem srt_sorted (l:List (Int × Int)):(srt l).Pairwise le2:=by
 have h:=List.pairwise_mergeSort (le:=leF2) (fun a b c h1 h2=>by rw[leF2_is] at *; unfold le2 at *; omega) (fun a b=>by
  rw[Bool.or_eq_true,leF2_is,leF2_is]; unfold le2; omega) l
 exact h.imp fun h=>(leF2_is _ _).1 h
theorem mem_srt {l:List (Int × Int)} {x:Int × Int}:x ∈ srt l ↔ x ∈ l:=List.mem_mergeSort
theorem mem_ddp {x:Int × Int}:∀ (l:List (Int × Int)),x ∈ ddp l ↔ x ∈ l
 | []=>by simp[ddp]
 | [y]=>by simp[ddp]
 | y :: z :: r=>by
  have:=mem_ddp (x:=x) (z :: r)
  simp only[ddp]
  split
  ·rename_i h; subst h; rw[this]; simp
  ·rw[List.mem_cons,this,List.mem_cons (a:=x) (b:=y)]
theorem zj50:∀ (l:List (Int × Int)),l.Pairwise le2→(ddp l).Pairwise lt2
 | [],_=>by simp[ddp]
 | [y],_=>by simp[ddp]
 | y :: z :: r,h=>by
  have h1:=List.pairwise_cons.1 h
  have ih:=zj50 (z :: r) h1.2
  simp only[ddp]
  split
  ·exact ih
  ·rename_i hne
   refine List.pairwise_cons.2 ⟨fun u hu=>?_,ih⟩
   have hu:=(mem_ddp _).1 hu
   have hyz:=h1.1 z (by simp)
   have hlt:lt2 y z:=by
    unfold le2 at hyz; unfold lt2
    have:¬ (y.1=z.1∧y.2=z.2):=fun⟨a,b⟩=>hne (Prod.ext a b)
    omega
   rcases List.mem_cons.1 hu with rfl | hu
   ·exact hlt
   ·have:=(List.pairwise_cons.1 h1.2).1 u hu
    unfold le2 at this; unfold lt2 at *; omega
def BadP (l:List In) (c p:Int):Prop:=WalkBad l c p ∨
 (c=7∧∃ x,0≤p∧l[p.toNat]? = some x∧legalB x=true∧∃ r b,r < 8∧(readsB x).getLsbD r=true∧Unset l r (p,b)) ∨
 (c=8∧0≤p∧p < l.length∧¬ Go.Lint.Reach l (p,false)∧¬ Go.Lint.Reach l (p,true))
theorem mem_e7 {m:Go.Lint.Met} {x:In} {i c p:Int}:(c,p) ∈ e7 m x i 2 ↔ c=7∧p=i∧∃ b,h7 m x i b=true:=by
 have h0:insJ 0=false:=rfl
 have h1:insJ 1=true:=rfl
 simp only[e7,List.nil_append,List.mem_append,h0,h1]
 constructor
 ·rintro (h | h)
  ·split at h
   ·rename_i h'
    simp at h
    exact⟨h.1,h.2,false,h'⟩
   ·simp at h
  ·split at h
   ·rename_i h'
    simp at h
    exact⟨h.1,h.2,true,h'⟩
   ·simp at h
 ·rintro ⟨rfl,rfl,b,hb⟩
  cases b
  ·left; rw[if_pos hb]; simp
  ·right; rw[if_pos hb]; simp
theorem mem_e78 {m:Go.Lint.Met} {x:In} {i c p:Int}:(c,p) ∈ e78 m x i ↔ (c=7∧p=i∧∃ b,h7 m x i b=true)∨(c=8∧p=i∧get m (i,false)=none∧get m (i,true)=none):=by
 have h2:rchJ m i 2=((get m (i,false)).isSome || (get m (i,true)).isSome):=rfl
 simp only[e78,List.mem_append,mem_e7]
 refine or_congr Iff.rfl ?_
 rw[h2]
 cases get m (i,false) <;> cases get m (i,true) <;> simp
theorem mem_ext78 {m:Go.Lint.Met} {l:List In} {c p:Int}:∀ n,n≤l.length→((c,p) ∈ ext78 m l n ↔ ∃ i x,i < n∧l[i]? = some x∧(c,p) ∈ e78 m x i)
 | 0,_=>by simp[ext78]
 | n+1,h=>by
  have ih:=mem_ext78 (m:=m) (l:=l) (c:=c) (p:=p) n (by omega)
  have hx:l[n]? = some (l[n]'(by omega)):=List.getElem?_eq_getElem (by omega)
  simp only[ext78,List.mem_append,ih,hx]
  constructor
  ·rintro (⟨i,x,h1,h2,h3⟩ | h3)
   ·exact⟨i,x,by omega,h2,h3⟩
   ·exact⟨n,_,by omega,hx,h3⟩
  ·rintro ⟨i,x,h1,h2,h3⟩
   by_cases e:i=n
   ·subst e
    rw[hx] at h2
    injection h2 with h2
    right; rw[h2]; exact h3
   ·exact .inl ⟨i,x,by omega,h2,h3⟩
theorem and_not_ne {a b:Set8}:a &&& ~~~ b ≠ 0#8 ↔ ∃ r,r < 8∧a.getLsbD r=true∧b.getLsbD r=false:=by
 constructor
 ·intro h
  apply Classical.byContradiction
  intro hn
  refine h (BitVec.eq_of_getLsbD_eq fun i hi=>?_)
  rw[BitVec.getLsbD_and,BitVec.getLsbD_not]
  have:=fun h1 h2=>hn ⟨i,hi,h1,h2⟩
  cases ha:a.getLsbD i <;> cases hb:b.getLsbD i <;> simp_all
 ·rintro ⟨r,hr,ha,hb⟩ h
  have:=congrArg (fun v=>v.getLsbD r) h
  simp only[BitVec.getLsbD_and,BitVec.getLsbD_not,ha,hb] at this
  simp[hr] at this
theorem h7_is {l:List In} {m:Go.Lint.Met} {fs:List (Int × Int)} (hf:Fin l m fs) {x:In} {i:Int} {b:Bool}:h7 m x i b=true ↔ legalB x=true∧∃ r,r < 8∧(readsB x).getLsbD r=true∧Unset l r (i,b):=by
 unfold h7
 cases hg:get m (i,b) with
 | none =>
  simp only[Bool.false_eq_true,false_iff]
  rintro ⟨_,r,_,_,hu⟩
  obtain⟨u,hu⟩:=(hf.reach (i,b)).2 hu.reach
  rw[hg] at hu; cases hu
 | some u =>
  simp only[Bool.and_eq_true,decide_eq_true_eq]
  refine and_congr Iff.rfl ?_
  rw[and_not_ne]
  constructor
  ·rintro ⟨r,hr,h1,h2⟩
   exact⟨r,hr,h1,(hf.unset _ _ hg r hr).1 h2⟩
  ·rintro ⟨r,hr,h1,h2⟩
   exact⟨r,hr,h1,(hf.unset _ _ hg r hr).2 h2⟩
theorem mem_found {l:List In} {m:Go.Lint.Met} {fs:List (Int × Int)} (hf:Fin l m fs) (c p:Int):(c,p) ∈ ddp (srt (fs++ext78 m l l.length)) ↔ BadP l c p:=by
 rw[mem_ddp,mem_srt,List.mem_append,hf.found,mem_ext78 _ (Nat.le_refl _)]
 unfold BadP
 refine or_congr Iff.rfl ?_
 have hno:∀ s,get m s=none ↔ ¬ Go.Lint.Reach l s:=fun s=>by
  rw[← hf.reach s]
  cases get m s <;> simp
 constructor
 ·rintro ⟨i,x,hi,hx,h⟩
  rw[mem_e78] at h
  rcases h with⟨rfl,rfl,b,hb⟩ | ⟨rfl,rfl,h1,h2⟩
  ·obtain⟨hl,r,hr,h1,h2⟩:=(h7_is hf).1 hb
   exact .inl ⟨rfl,x,by omega,by simpa using hx,hl,r,b,hr,h1,h2⟩
  ·exact .inr ⟨rfl,by omega,by omega,(hno _).1 h1,(hno _).1 h2⟩
 ·rintro (⟨rfl,x,h0,hx,hl,r,b,hr,h1,h2⟩ | ⟨rfl,h0,h1,h2,h3⟩)
  ·have hlt:p.toNat < l.length:=by
    rcases Nat.lt_or_ge p.toNat l.length with h | h
    ·exact h
    ·rw[List.getElem?_eq_none h] at hx; cases hx
   have hp:((p.toNat:Nat):Int)=p:=by omega
   refine⟨p.toNat,x,hlt,hx,mem_e78.2 (.inl ⟨rfl,hp.symm,b,?_⟩)⟩
   rw[hp]
   exact (h7_is hf).2 ⟨hl,r,hr,h1,h2⟩
  ·have hp:((p.toNat:Nat):Int)=p:=by omega
   refine⟨p.toNat,l[p.toNat]'(by omega),by omega,List.getElem?_eq_getElem _,mem_e78.2 (.inr ⟨rfl,hp.symm,?_,?_⟩)⟩
   ·rw[hp]; exact (hno _).2 h2
   ·rw[hp]; exact (hno _).2 h3
structure FoundOk (l:List In) (fs:List (Int × Int)):Prop where
 mem:∀ c p,(c,p) ∈ fs ↔ BadP l c p
 up:fs.Pairwise lt2
theorem found_ok {l:List In} {m:Go.Lint.Met} {fs:List (Int × Int)} (hf:Fin l m fs):FoundOk l (ddp (srt (fs++ext78 m l l.length))) :=
 ⟨mem_found hf,zj50 _ (srt_sorted _)⟩
theorem FoundOk.uniq {l:List In}:∀ {fs gs:List (Int × Int)},FoundOk l fs→FoundOk l gs→fs=gs:=by
 have key:∀ (fs gs:List (Int × Int)),fs.Pairwise lt2→gs.Pairwise lt2→(∀ x,x ∈ fs ↔ x ∈ gs)→fs=gs:=by
  intro fs
  induction fs with
  | nil =>
   intro gs _ _ h
   cases gs with
   | nil=>rfl
   | cons y r=>have:=(h y).2 (by simp); simp at this
  | cons x r ih =>
   intro gs h1 h2 h
   cases gs with
   | nil=>have:=(h x).1 (by simp); simp at this
   | cons y t =>
    have a1:=List.pairwise_cons.1 h1
    have a2:=List.pairwise_cons.1 h2
    have hxy:x=y:=by
     rcases List.mem_cons.1 ((h x).1 (by simp)) with e | e
     ·exact e
     ·rcases List.mem_cons.1 ((h y).2 (by simp)) with e' | e'
      ·exact e'.symm
      ·have q1:=a2.1 x e
       have q2:=a1.1 y e'
       unfold lt2 at q1 q2; omega
    subst hxy
    rw[ih t a1.2 a2.2 fun z=>?_]
    have hz:=h z
    rw[List.mem_cons,List.mem_cons] at hz
    constructor
    ·intro hzr
     rcases hz.1 (.inr hzr) with e | e
     ·subst e; have:=a1.1 _ hzr; unfold lt2 at this; omega
     ·exact e
    ·intro hzt
     rcases hz.2 (.inr hzt) with e | e
     ·subst e; have:=a2.1 _ hzt; unfold lt2 at this; omega
     ·exact e
 exact fun {fs gs} h1 h2=>key _ _ h1.up h2.up fun⟨c,p⟩=>by rw[h1.mem,h2.mem]
theorem look22F (l:List In) (B:Option Addr) (bc:Nat) (w:World) (hl:l.length≤1024) (hB:RowAt w B (cellsI l)) (hG:ShAt w) :
  CallsV Tryz.prog 7 [.slice B l.length bc] w fun v w'=>∃ (A:Option Addr) (c:Nat) (fs:List (Int × Int)),FoundOk l fs∧v=.tuple #[.slice A fs.length c,.int .i64 0] ∧
   World.ownsB w' w.heap.size 33 2 (.slice A fs.length c) fs.length (fsV fs)∧Fresh w w' :=
 (look22 l B bc w hl hB hG).mono fun _ _ ⟨_,_,A,c,hf,hv,ho,hk⟩=>⟨A,c,_,found_ok hf,hv,ho,hk⟩
end Go.Proofs.YtgghmmjoplddbaaGreatDoor
