/- The document's Goes: where an instruction goes. -/
import Derived.Test.YtlbiogokpadaoaaGreatDoorFlSteps
import Derived.Test.YtlbiogokpadaoaaGreatDoorRpPlain
import Derived.Test.YtlbiogokpadaoaaGreatDoorRpCode
set_option linter.unusedSimpArgs false
set_option linter.unusedVariables false
set_option linter.unnecessarySimpa false
namespace Go.Proofs.YtlbiogokpadaoaaGreatDoor
open Go Go.Sx Go.Isa
open Nat (reduceAdd reduceLT)
set_option maxRecDepth 100000
def GoR (l:List In) (i:Nat) (x:In) (w:World) (v:Value) (w':World):Prop:=∃ (A:Option Addr) (c:Nat),v=.tuple #[.slice A (goesL l.length i x).length c,.bool (endsB x)]∧World.ownsB w' w.heap.size 3 1 (.slice A (goesL l.length i x).length c) (goesL l.length i x).length (isV (goesL l.length i x))∧Fresh w w'
theorem goes118 (l:List In) (i:Nat) (x:In) (B:Option Addr) (bc:Nat) (w:World) (hx:l[i]? = some x) (hl:l.length≤1024) (hB:RowAt w B (cellsI l)) :
  CallsV Tryz.prog 118 [.slice B l.length bc,.int .i64 (i:Int)] w (GoR l i x w):=by
 refine zj03 (keep:=K118) (nt:=66) (svs:=[.val (.slice B l.length bc),.val (.int .i64 (i:Int))]) Tryz.func118 x118 n118 (by simp) (by simp[IsL,Is]) fun R hR=>?_
 have hlt:i < l.length:=zj7h hx
 have hi1:((i:Nat):Int).toNat=i:=by omega
 have hxl:l[i]=x:=(List.getElem?_eq_some_iff.1 hx).2
 have cl:∀ k v,k < 5→x.cells[k]? = some v→CellAt ⟨w,w.heap.size,[],66,[]⟩ B (i*5+k) v:=fun k v hk hv=>hB.cell (by rw[zj0b l hlt hk,hxl]; exact hv)
 have sB:B.isSome=true:=hB.isSome (j:=i*5) (by rw[zj06]; omega)
 (refine Y_go 600 ?_; dsimp only[go_sem,reduceAdd,Nat.reduceBEq])
 rw[hi1]
 refine⟨⟨by omega,by omega,sB⟩,_,cl 0 _ (by omega) rfl,_,cl 1 _ (by omega) rfl,_,cl 2 _ (by omega) rfl,_,cl 3 _ (by omega) rfl,_,cl 4 _ (by omega) rfl,fun g=>?_⟩
 have hends:∀ b,endsB x=b→b=(!legalB x || (x.op == 1 || brB x.op)):=fun b h=>by rw[← h]; rfl
 have fin:∀ (F:List (Nat × SV)) (H:List SO) (k ver:Nat) (A:Option Addr) (c:Nat) (zs:List Int) (b:Bool),nth H k=some (.own 3 ver 1 A zs.length c (isV zs))→zs=goesL l.length i x→b=endsB x→denAll H F [4,5]=some [.slice A zs.length c,.bool b]→RetG (cxOf Tryz.prog Tryz.f118 K118 T118 R) ⟨w,w.heap.size,[],66,[]⟩ { F:=F,H:=H }:=by
  intro F H k ver A c zs b hk hz hb hd
  subst hz; subst hb
  exact zj02 (vs:=[.slice A (goesL l.length i x).length c,.bool (endsB x)]) r118 rfl hd fun W hW=>hR _ _ ⟨A,c,rfl,hW.owns (i:=k) hk,hW.fresh'⟩
 have fin0:∀ (F:List (Nat × SV)) (H:List SO) (b:Bool),[]=goesL l.length i x→b=endsB x→denAll H F [4,5]=some [.slice none 0 0,.bool b]→RetG (cxOf Tryz.prog Tryz.f118 K118 T118 R) ⟨w,w.heap.size,[],66,[]⟩ { F:=F,H:=H }:=by
  intro F H b hz hb hd
  subst hb
  refine zj02 (vs:=[.slice none 0 0,.bool (endsB x)]) r118 rfl hd fun W hW=>hR _ _ ⟨none,0,?_,?_,hW.fresh'⟩
  ·rw[← hz]; rfl
  ·rw[← hz]; exact zj0x _ _ _ _
 cases hb:legalB x with
 | false =>
  refine zj01 (vs:=[In.val x]) rfl (fun W hW=>zj17 x W) fun v hv=>⟨.bf,by rw[hv,hb]; simp[Is],?_⟩
  (refine Y_go 600 ?_; dsimp only[go_sem,Nat.reduceBEq,reduceAdd])
  have e1:[]=goesL l.length i x:=by unfold goesL; rw[hb]; rfl
  have e2:true=endsB x:=by unfold endsB; rw[hb]; rfl
  exact⟨fun _=>fin0 _ _ _ e1 e2 rfl,fun _=>fin0 _ _ _ e1 e2 rfl⟩
 | true =>
  refine zj01 (vs:=[In.val x]) rfl (fun W hW=>zj17 x W) fun v hv=>⟨.bt,by rw[hv,hb]; simp[Is],?_⟩
  have hgo:goesL l.length i x=if x.op == 1 then [] else (if brB x.op && (decide (0≤x.imm) && decide (x.imm < l.length)) then [x.imm] else [])++(if !(x.op == 13) && decide (i+1 < l.length) then [((i:Int)+1)] else []):=by
   unfold goesL; rw[hb]; cases x.op == 1 <;> rfl
  have hen:endsB x=(x.op == 1 || brB x.op):=by unfold endsB; rw[hb]; rfl
  have raw:∀ b,b=brB x.op→G (cxOf Tryz.prog Tryz.f118 K118 T118 R) ⟨w,w.heap.size,[],66,[]⟩ [.code (.ref 7)] { F:=[(0,.val (.slice B l.length bc)),(1,.val (.int .i64 (i:Int))),(4,.val (.slice none 0 0)),(5,.bf),(6,.ptr 0 0),(7,.bt),(8,bsv b)],H:=[.cells g 41 (In.sv x)] }:=by
   intro b hbr
   rw[← hbr] at hgo hen
   cases b with
   | false =>
    simp only[bsv]
    (refine Y_go 600 ?_; dsimp only[go_sem,In.sv,Nat.reduceBEq,reduceAdd,Nat.reduceMul])
    refine⟨fun h1=>fin0 _ _ _ (by rw[hgo,h1]; rfl) (by rw[hen,h1]; rfl) rfl,fun h1=>?_⟩
    have hen:false=endsB x:=by rw[hen,h1]; rfl
    have hgo:goesL l.length i x=(if !(x.op == 13) && decide (i+1 < l.length) then [((i:Int)+1)] else []):=by rw[hgo,h1]; rfl
    refine⟨fun h13=>⟨((i+1:Nat):Int),ArOk.to (by omega) (by omega) (by omega),fun hlt2=>⟨((i+1:Nat):Int),ArOk.to (by omega) (by omega) (by omega),fun g1=>⟨⟨by decide,by decide⟩,fun A c=>?_⟩⟩,fun hge2=>?_⟩,fun h13=>?_⟩
    ·have h13:(!(x.op == 13))=true:=h13
     have hlt2:i+1 < l.length:=by have:=of_decide_eq_true hlt2; omega
     exact fin _ _ 2 0 A c [((i+1:Nat):Int)] _ rfl (by rw[hgo,h13,decide_eq_true hlt2]; rfl) hen rfl
    ·have hge2:¬ i+1 < l.length:=by have:=of_decide_eq_false hge2; omega
     exact fin0 _ _ _ (by rw[hgo,decide_eq_false hge2]; simp) hen rfl
    ·have h13:(!(x.op == 13))=false:=h13
     exact fin0 _ _ _ (by rw[hgo,h13]; simp) hen rfl
   | true =>
    simp only[bsv]
    (refine Y_go 600 ?_; dsimp only[go_sem,In.sv,Nat.reduceBEq,reduceAdd,Nat.reduceMul])
    refine⟨fun h1=>fin0 _ _ _ (by rw[hgo,h1]; rfl) (by rw[hen,h1]; rfl) rfl,fun h1=>?_⟩
    have hen:true=endsB x:=by rw[hen,h1]; rfl
    have hgo:goesL l.length i x=(if decide (0≤x.imm) && decide (x.imm < l.length) then [x.imm] else [])++(if !(x.op == 13) && decide (i+1 < l.length) then [((i:Int)+1)] else []):=by rw[hgo,h1]; simp
    refine⟨fun h0=>⟨fun h2=>fun g1=>⟨⟨by decide,by decide⟩,fun A1 c1=>?_⟩,fun h2=>?_⟩,fun h0=>?_⟩
    ·have h0:decide (0≤x.imm)=true:=h0
     have hgo:goesL l.length i x=x.imm :: (if !(x.op == 13) && decide (i+1 < l.length) then [((i:Int)+1)] else []):=by rw[hgo,h0,h2]; rfl
     refine⟨fun h13=>⟨((i+1:Nat):Int),ArOk.to (by omega) (by omega) (by omega),fun hlt2=>⟨((i+1:Nat):Int),ArOk.to (by omega) (by omega) (by omega),fun g2=>⟨⟨by decide,by decide⟩,fun A c=>?_⟩⟩,fun hge2=>?_⟩,fun h13=>?_⟩
     ·have h13:(!(x.op == 13))=true:=h13
      have hlt2:i+1 < l.length:=by have:=of_decide_eq_true hlt2; omega
      exact fin _ _ 2 1 A c [x.imm,((i+1:Nat):Int)] _ rfl (by rw[hgo,h13,decide_eq_true hlt2]; rfl) hen rfl
     ·have hge2:¬ i+1 < l.length:=by have:=of_decide_eq_false hge2; omega
      exact fin _ _ 2 0 A1 c1 [x.imm] _ rfl (by rw[hgo,decide_eq_false hge2]; simp) hen rfl
     ·have h13:(!(x.op == 13))=false:=h13
      exact fin _ _ 2 0 A1 c1 [x.imm] _ rfl (by rw[hgo,h13]; simp) hen rfl
    ·have hgo:goesL l.length i x=(if !(x.op == 13) && decide (i+1 < l.length) then [((i:Int)+1)] else []):=by rw[hgo,h2]; simp
     refine⟨fun h13=>⟨((i+1:Nat):Int),ArOk.to (by omega) (by omega) (by omega),fun hlt2=>⟨((i+1:Nat):Int),ArOk.to (by omega) (by omega) (by omega),fun g1=>⟨⟨by decide,by decide⟩,fun A c=>?_⟩⟩,fun hge2=>?_⟩,fun h13=>?_⟩
     ·have h13:(!(x.op == 13))=true:=h13
      have hlt2:i+1 < l.length:=by have:=of_decide_eq_true hlt2; omega
      exact fin _ _ 2 0 A c [((i+1:Nat):Int)] _ rfl (by rw[hgo,h13,decide_eq_true hlt2]; rfl) hen rfl
     ·have hge2:¬ i+1 < l.length:=by have:=of_decide_eq_false hge2; omega
      exact fin0 _ _ _ (by rw[hgo,decide_eq_false hge2]; simp) hen rfl
     ·have h13:(!(x.op == 13))=false:=h13
      exact fin0 _ _ _ (by rw[hgo,h13]; simp) hen rfl
    ·have h0:decide (0≤x.imm)=false:=h0
     have hgo:goesL l.length i x=(if !(x.op == 13) && decide (i+1 < l.length) then [((i:Int)+1)] else []):=by rw[hgo,h0]; simp
     refine⟨fun h13=>⟨((i+1:Nat):Int),ArOk.to (by omega) (by omega) (by omega),fun hlt2=>⟨((i+1:Nat):Int),ArOk.to (by omega) (by omega) (by omega),fun g1=>⟨⟨by decide,by decide⟩,fun A c=>?_⟩⟩,fun hge2=>?_⟩,fun h13=>?_⟩
     ·have h13:(!(x.op == 13))=true:=h13
      have hlt2:i+1 < l.length:=by have:=of_decide_eq_true hlt2; omega
      exact fin _ _ 2 0 A c [((i+1:Nat):Int)] _ rfl (by rw[hgo,h13,decide_eq_true hlt2]; rfl) hen rfl
     ·have hge2:¬ i+1 < l.length:=by have:=of_decide_eq_false hge2; omega
      exact fin0 _ _ _ (by rw[hgo,decide_eq_false hge2]; simp) hen rfl
     ·have h13:(!(x.op == 13))=false:=h13
      exact fin0 _ _ _ (by rw[hgo,h13]; simp) hen rfl
  (refine Y_go 15 ?_; dsimp only[go_sem,Nat.reduceBEq,reduceAdd,Y_0])
  refine⟨fun h13=>fun a W rep=>?_,fun h13=>fun a W rep=>?_⟩
  ·have rep1:=zj1l 8 rep rfl
   have e:decide (x.op≤16)=brB x.op:=by unfold brB; rw[show decide (13≤x.op)=true from h13]; rfl
   rw[e] at rep1
   generalize hbb:brB x.op=b at rep1 raw
   cases b <;> exact raw _ rfl a W (rep1.le (by simp only[bsv]; (simp only[go_sem,lk,Nat.reduceBEq,reduceLT,reduceAdd] <;> try simp)) (by (simp only[go_sem,lk,Nat.reduceBEq,reduceLT,reduceAdd] <;> try simp); exact⟨rfl,rfl⟩))
  ·have e:false=brB x.op:=by unfold brB; rw[show decide (13≤x.op)=false from h13]; rfl
   exact raw false e a W (rep.le (by simp only[bsv]; (simp only[go_sem,lk,Nat.reduceBEq,reduceLT,reduceAdd] <;> try simp)) (by (simp only[go_sem,lk,Nat.reduceBEq,reduceLT,reduceAdd] <;> try simp); exact⟨rfl,rfl⟩))
theorem setL_get {α:Type} (l:List α) (k:Nat) (v:α) (j:Nat):(setn l k v)[j]? = if k=j∧k < l.length then some v else l[j]? := by
 rw[zj0e,List.getElem?_set]
 by_cases h:k=j
 ·subst h
  by_cases h2:k < l.length
  ·simp[h2]
  ·simp[h2]
 ·simp[h]
theorem zj49 {L:List PR} {k r:Nat} {p p':PR} {v:Value} (hk:L[k]? = some p) (hr:r < 3) (hc:∀ j,j < 3→p'.cells[j]? = if r=j then some v else p.cells[j]?):setn (cellsR L) (k*3+r) v=cellsR (L.set k p'):=by
 have hkl:k < L.length:=(List.getElem?_eq_some_iff.1 hk).1
 apply List.ext_getElem?
 intro j
 rw[setL_get]
 rcases Nat.lt_or_ge j (L.length*3) with hj | hj
 ·obtain⟨q,s,hs,rfl⟩:∃ q s,s < 3∧j=q*3+s:=⟨j / 3,j % 3,Nat.mod_lt _ (by omega),by omega⟩
  have hq:q < L.length:=by omega
  have hqe:L[q]? = some L[q]:=List.getElem?_eq_getElem hq
  by_cases e:k=q
  ·subst e
   rw[hk] at hqe; injection hqe with hqe
   have h2:(L.set k p')[k]? = some p':=by rw[List.getElem?_set]; simp[hkl]
   rw[zj0m h2 hs,hc s hs,zj0m hk hs]
   by_cases e2:r=s
   ·subst e2; rw[if_pos rfl,if_pos ⟨rfl,by rw[zj23]; omega⟩]
   ·rw[if_neg e2,if_neg (by omega)]
  ·have h2:(L.set k p')[q]? = some L[q]:=by rw[List.getElem?_set,if_neg e]; exact hqe
   rw[zj0m h2 hs,zj0m hqe hs,if_neg (by omega)]
 ·rw[if_neg (by omega),List.getElem?_eq_none (by rw[zj23]; exact hj),List.getElem?_eq_none (by rw[zj23,List.length_set]; exact hj)]
theorem repI_zero:∀ n,repN n [Value.int .i64 0]=isV (List.replicate n 0)
 | 0=>rfl
 | n+1=>by
  show Value.int .i64 0 :: repN n [Value.int .i64 0]=_
  rw[repI_zero n]; rfl
theorem isV_set (o:List Int) (i:Nat) (b:Int):setn (isV o) i (.int .i64 b)=isV (o.set i b):=by
 rw[zj0e]; unfold isV; rw[List.map_set]
def pr0 (b:Int):PR:=⟨⟨b,0,[]⟩,none,0⟩
theorem toL_succ (n:Nat) (bs:List Int) (k:Nat):toL n bs k=((bs[k+1]?).getD (n:Int)):=rfl
structure LOk (l:List In) (n:Nat) (E:Env) (k:Nat) (L:List PR):Prop where
 len:L.length=(bgL l).length
 done:∀ j,j < k→∃ p,L[j]? = some p∧p.pa=partL l (bgL l) j
 rest:∀ j b,k≤j→(bgL l)[j]? = some b→L[j]? = some (pr0 b)
 nx:NxE E L
 new:NxNew n L
theorem LOk.start (l:List In) (n:Nat) (E:Env):LOk l n E 0 ((bgL l).map pr0) where
 len:=by simp
 done j h:=by omega
 rest j b _ h:=by rw[List.getElem?_map,h]; rfl
 nx p hp:=by
  obtain⟨b,_,rfl⟩:=List.mem_map.1 hp
  intro j u h; simp[pr0,isV] at h
 new p hp:=by
  obtain⟨b,_,rfl⟩:=List.mem_map.1 hp
  intro a h; cases h
theorem LOk.step {l:List In} {n:Nat} {E E':Env} {k:Nat} {L:List PR} {p:PR} (h:LOk l n E k L) (o:Over E E') (hk:k < (bgL l).length) (hp:p.pa=partL l (bgL l) k) (hr:RowE E' p.A (isV p.pa.nx)) (hn:∀ a,p.A=some a→n≤a.block):LOk l n E' (k+1) (L.set k p) where
 len:=by rw[List.length_set]; exact h.len
 done j hj:=by
  by_cases e:k=j
  ·subst e
   exact⟨p,by rw[List.getElem?_set]; simp[h.len,hk],hp⟩
  ·obtain⟨q,h1,h2⟩:=h.done j (by omega)
   exact⟨q,by rw[List.getElem?_set,if_neg e]; exact h1,h2⟩
 rest j b hj hb:=by rw[List.getElem?_set,if_neg (by omega)]; exact h.rest j b (by omega) hb
 nx q hq:=by
  rcases List.mem_or_eq_of_mem_set hq with e | e
  ·exact (h.nx.over o) q e
  ·subst e; exact hr
 new q hq:=by
  rcases List.mem_or_eq_of_mem_set hq with e | e
  ·exact h.new q e
  ·subst e; exact hn
theorem LOk.fin {l:List In} {n:Nat} {E:Env} {L:List PR} (h:LOk l n E (bgL l).length L):L.map PR.pa=partsL l:=by
 apply List.ext_getElem?
 intro j
 rw[List.getElem?_map]
 rcases Nat.lt_or_ge j (bgL l).length with hj | hj
 ·obtain⟨p,h1,h2⟩:=h.done j hj
  rw[h1,zj2u hj,← h2]; rfl
 ·rw[List.getElem?_eq_none (by rw[h.len]; exact hj),List.getElem?_eq_none (by rw[zj45]; exact hj)]; rfl
theorem ph3 {l:List In} {B:Option Addr} {bc:Nat} {w:World} {R:Value→World→Prop} (hl:l.length≤1024) (hB:RowAt w B (cellsI l)) (hR:∀ v W,PartsR l w v W→R v W) (g1:Nat) (oA:Option Addr) (oC:Nat) :
  G (cxOf Tryz.prog Tryz.f89 K89 T89 R) ⟨w,w.heap.size,[],153,[]⟩ [.code (XC.ref 29).loop,.blk 6,.code (.ref 30)] { F:=[(0,.val (.slice B l.length bc)),(8,.own 0 0),(9,.own 1 0),(11,.val (.int .i64 0))],H:=[.own 3 0 1 (some ⟨g1,0,none⟩) (l.length+1) (l.length+1) (isV (nuT l l.length)),.own 35 0 3 oA (bgL l).length oC (cellsR ((bgL l).map pr0))] }:=by
 have hbn:=zj6f l
 refine zj04 (α:=List PR × Nat × World × Nat × List Nat) (fun q=>q.2.1≤(bgL l).length∧Over ⟨w,w.heap.size,[],153,[]⟩ ⟨q.2.2.1,q.2.2.2.1,q.2.2.2.2,153,[]⟩∧LOk l w.heap.size ⟨q.2.2.1,q.2.2.2.1,q.2.2.2.2,153,[]⟩ q.2.1 q.1) (fun q=>⟨q.2.2.1,q.2.2.2.1,q.2.2.2.2,153,[]⟩)
  (fun q=>{ F:=[(0,.val (.slice B l.length bc)),(8,.own 0 0),(9,.own 1 0),(11,.val (.int .i64 (q.2.1:Int)))],H:=[.own 3 0 1 (some ⟨g1,0,none⟩) (l.length+1) (l.length+1) (isV (nuT l l.length)),.own 35 0 3 oA (bgL l).length oC (cellsR q.1)] }) (fun q=>(bgL l).length - q.2.1) (fun _=>rfl) ?start ?round
 case start =>
  intro a W rep
  exact⟨((bgL l).map pr0,0,w,w.heap.size,[]),⟨Nat.zero_le _,Over.refl _,LOk.start l _ _⟩,rep.lq⟩
 case round =>
  rintro ⟨L,k,b,N,st⟩ ⟨hk,hov,hL⟩ I again
  simp only at hk hov hL ⊢
  have hLl:=hL.len
  have hBE:RowE ⟨b,N,st,153,[]⟩ B (cellsI l):=(hB.toE (by simp) 153 []).over hov
  (refine Y_go 600 ?_; dsimp only[go_sem,Nat.reduceBEq])
  refine⟨fun hlt=>?_,fun hge=>?_⟩
  ·have hlt:k < (bgL l).length:=by have:=of_decide_eq_true hlt; omega
   have hk1:((k:Nat):Int).toNat=k:=by omega
   have hx:(bgL l)[k]? = some (bgL l)[k]:=List.getElem?_eq_getElem hlt
   generalize (bgL l)[k]=fr at hx
   have hLk:=hL.rest k fr (Nat.le_refl _) hx
   have bdk:(0:Int)≤(k:Int)∧(k:Int) < ((bgL l).length:Int):=⟨by omega,by omega⟩
   have s1:setn (cellsR L) (k*3+1) (.int .i64 (l.length:Int))=cellsR (L.set k ⟨⟨fr,l.length,[]⟩,none,0⟩):=zj49 hLk (by omega) (fun j hj=>by
    have:j=0∨j=1∨j=2:=by omega
    rcases this with h | h | h <;> subst h <;> rfl)
   rw[hk1,s1]
   have pc:∀ (to:Int) (nx:List Int) (A:Option Addr) (c:Nat),(L.set k ⟨⟨fr,to,nx⟩,A,c⟩)[k]? = some ⟨⟨fr,to,nx⟩,A,c⟩:=fun to nx A c=>by rw[List.getElem?_set]; simp; omega
   have tor:=zj2v hx
   have hfr:=zj10 (List.mem_of_getElem? hx)
   have raw:∀ to:Int,to=toL l.length (bgL l) k→G (cxOf Tryz.prog Tryz.f89 K89 T89 R) ⟨b,N,st,153,[]⟩ [.ops [⟨some 112,none,.call 118 [.tmp 105,.tmp 111]⟩,⟨some 104,none,.k (.mov (.tmp 112))⟩,⟨some 113,none,.k (.ext (.tmp 104) 0)⟩,⟨some 114,none,.k (.ext (.tmp 104) 1)⟩,⟨some 12,none,.k (.mov (.tmp 113))⟩,⟨some 13,none,.k (.mov (.tmp 114))⟩],.code (.ref 24),.blk 7,.code (.ref 27),.lend I,.blk 6,.code (.ref 30)]
     { F:=[(111,.val (.int .i64 (to - 1))),(105,.val (.slice B l.length bc)),(0,.val (.slice B l.length bc)),(8,.own 0 0),(9,.own 1 0),(11,.val (.int .i64 (k:Int)))],H:=[.own 3 0 1 (some ⟨g1,0,none⟩) (l.length+1) (l.length+1) (isV (nuT l l.length)),.own 35 0 3 oA (bgL l).length oC (cellsR (L.set k ⟨⟨fr,to,[]⟩,none,0⟩))] }:=by
    intro to hto
    rw[← hto] at tor
    obtain⟨p,hp⟩:∃ p:Nat,(p:Int)=to - 1:=⟨(to - 1).toNat,by omega⟩
    have hpl:p < l.length:=by omega
    have hy:l[p]? = some l[p]:=List.getElem?_eq_getElem hpl
    generalize l[p]=y at hy
    rw[← hp]
    refine zj07 (vs:=[.slice B l.length bc,.int .i64 (p:Int)]) rfl (R:=fun W v W'=>GoR l p y W v W') (fun W hW=>goes118 l p y B bc W hy hl (hBE.at hW)) fun W v W' hW ⟨A,c,hv,ho,hk⟩=>?_
    obtain⟨A',c',e1,e2,e5,_⟩:=hW.gain ho hk
    injection e1 with e3 _ e4
    subst e3; subst e4; subst hv
    have hgl:=zj3l l.length p y
    have hgr:∀ t ∈ goesL l.length p y,0≤t∧t < l.length:=fun t ht=>zj1u ht
    have hga:goesA l (to - 1).toNat=goesL l.length p y:=by
     have:(to - 1).toNat=p:=by omega
     unfold goesA; rw[this,hy]
    have hgb:∀ t ∈ goesL l.length p y,t ∈ bgL l:=fun t ht=>goesA_in hx (by rw[← hto,hga]; exact ht)
    have hnx:nxD l (goesL l.length p y) (bgL l).length=nxL l (bgL l) to:=by unfold nxL; rw[hga]; exact nxD_all hgb
    generalize hz:goesL l.length p y=zs at *
    refine⟨.tup [.own 2 0,.val (.bool (endsB y))],_,?_,e2,e5,?_⟩
    ·simp only[Is,IsL]; exact⟨_,⟨_,_,⟨_,_,_,_,_,_,_,rfl,Nat.le_refl _,⟨_,_,_,rfl⟩,fun _=>rfl⟩,⟨_,_,rfl,rfl,rfl⟩,rfl⟩,rfl⟩
    clear e5 e2 hW ho hk
    (refine Y_go 600 ?_; dsimp only[go_sem,Nat.reduceBEq])
    refine zj04 (α:=Nat × Option Addr × Nat) (fun q=>q.1≤(bgL l).length) (fun _=>⟨b,N,st,153,[]⟩) (fun q=>{ F:=[(0,.val (.slice B l.length bc)),(8,.own 0 0),(9,.own 1 0),(11,.val (.int .i64 (k:Int))),(12,.own 2 0),(14,.val (.int .i64 (q.1:Int)))],H:=[.own 3 0 1 (some ⟨g1,0,none⟩) (l.length+1) (l.length+1) (isV (nuT l l.length)),.own 35 0 3 oA (bgL l).length oC (cellsR (L.set k ⟨⟨fr,to,nxD l zs q.1⟩,q.2.1,q.2.2⟩)),.own 3 0 1 A zs.length c (isV zs),.own 3 0 1 q.2.1 (nxD l zs q.1).length q.2.2 (isV (nxD l zs q.1))] }) (fun q=>(bgL l).length - q.1) (fun _=>rfl) ?start2 ?round2
    case start2 =>
     intro a W rep
     exact⟨(0,none,0),Nat.zero_le _,(rep.nilH 3 1).le (by (simp only[go_sem,lk,Nat.reduceBEq,reduceLT,reduceAdd] <;> try simp)) (by (simp only[go_sem,lk,Nat.reduceBEq,reduceLT,reduceAdd] <;> try simp); exact⟨rfl,rfl,rfl⟩)⟩
    case round2 =>
     rintro ⟨m,nA,nC⟩ hm I2 again2
     have hm:m≤(bgL l).length:=hm
     simp only at again2 ⊢
     have hcl:=nxD_len l zs m
     have hstep:nxD l zs (m+1)=if isN l zs m then nxD l zs m++[(m:Int)] else nxD l zs m:=rfl
     (refine Y_go 600 ?_; dsimp only[go_sem,Nat.reduceBEq])
     refine⟨fun hltm=>?_,fun hgem=>?_⟩
     ·have hltm:m < (bgL l).length:=by have:=of_decide_eq_true hltm; omega
      refine zj04 (α:=Nat) (fun i=>i≤zs.length) (fun _=>⟨b,N,st,153,[]⟩) (fun i=>{ F:=[(0,.val (.slice B l.length bc)),(8,.own 0 0),(9,.own 1 0),(11,.val (.int .i64 (k:Int))),(12,.own 2 0),(14,.val (.int .i64 (m:Int))),(15,bsv ((zs.take i).any fun t=>nuI l t.toNat == (m:Int))),(16,.val (.int .i64 (i:Int)))],H:=[.own 3 0 1 (some ⟨g1,0,none⟩) (l.length+1) (l.length+1) (isV (nuT l l.length)),.own 35 0 3 oA (bgL l).length oC (cellsR (L.set k ⟨⟨fr,to,nxD l zs m⟩,nA,nC⟩)),.own 3 0 1 A zs.length c (isV zs),.own 3 0 1 nA (nxD l zs m).length nC (isV (nxD l zs m))] }) (fun i=>zs.length - i) (fun _=>rfl) ?start3 ?round3
      case start3 =>
       intro a W rep
       exact⟨0,Nat.zero_le _,rep.le (by simp only[List.take_zero,List.any_nil,bsv]; (simp only[go_sem,lk,Nat.reduceBEq,reduceLT,reduceAdd] <;> try simp)) (by (simp only[go_sem,lk,Nat.reduceBEq,reduceLT,reduceAdd] <;> try simp))⟩
      case round3 =>
       intro i hi I3 again3
       have hi:i≤zs.length:=hi
       have hi1:((i:Nat):Int).toNat=i:=by omega
       have stp:∀ z,zs[i]? = some z→((zs.take (i+1)).any fun t=>nuI l t.toNat == (m:Int))=(((zs.take i).any fun t=>nuI l t.toNat == (m:Int)) || nuI l z.toNat == (m:Int)):=fun z hz=>by
        rw[zj1t hz,List.any_append]; simp
       have hall:i=zs.length→((zs.take i).any fun t=>nuI l t.toNat == (m:Int))=isN l zs m:=fun h=>by rw[h,List.take_length]; rfl
       generalize hd:((zs.take i).any fun t=>nuI l t.toNat == (m:Int))=d at stp hall
       have getz:i < zs.length→∃ t:Nat,zs[i]? = some (t:Int)∧t < l.length:=fun h=>by
        have hz:zs[i]? = some zs[i]:=List.getElem?_eq_getElem h
        have hz2:=hgr _ (List.getElem_mem h)
        refine⟨(zs[i]).toNat,?_,by omega⟩
        rw[hz]; congr 1; omega
       cases d with
       | true =>
        simp only[bsv]
        (refine Y_go 28 ?_; dsimp only[go_sem,Nat.reduceBEq,Y_0,Nat.reduceMul,reduceAdd])
        refine⟨fun hlt3=>?_,fun hge3=>?_⟩
        ·have hlt3:i < zs.length:=by have:=of_decide_eq_true hlt3; omega
         obtain⟨z,hz,_⟩:=getz hlt3
         (refine Y_go 600 ?_; dsimp only[go_sem,Nat.reduceBEq])
         refine⟨((i+1:Nat):Int),ArOk.to (by omega) (by omega) (by omega),zj00 fun a W rep=>again3 (i+1) (by show i+1≤_; omega) (by show _ - (i+1) < _ - i; omega) a W (rep.le ?_ (by (simp only[go_sem,lk,Nat.reduceBEq,reduceLT,reduceAdd] <;> try simp)))⟩
         rw[stp _ hz,Bool.true_or]
         simp only[bsv]
         (simp only[go_sem,lk,Nat.reduceBEq,reduceLT,reduceAdd] <;> try simp)
        ·have hin:=hall (by have:=of_decide_eq_false hge3; omega)
         rw[← hin] at hstep
         rw[hk1]
         refine⟨bdk,nA,(nxD l zs m).length,nC,by rw[zj0m (pc _ _ _ _) (by omega)]; rfl,fun g5=>?_⟩
         refine G.le (E':=⟨b,N,st,153,[]⟩) rfl (s':={ F:=[(146,.own 3 0),(148,.slc 4 0 1 1),(147,.val (.int .i64 (m:Int))),(140,.own 1 0),(141,.val (.int .i64 (k:Int))),(0,.val (.slice B l.length bc)),(8,.own 0 0),(9,.own 1 0),(11,.val (.int .i64 (k:Int))),(12,.own 2 0),(14,.val (.int .i64 (m:Int)))],H:=[.own 3 0 1 (some ⟨g1,0,none⟩) (l.length+1) (l.length+1) (isV (nuT l l.length)),.own 35 0 3 oA (bgL l).length oC (cellsR (L.set k ⟨⟨fr,to,nxD l zs m⟩,nA,nC⟩)),.own 3 0 1 A zs.length c (isV zs),.own 3 0 1 nA (nxD l zs m).length nC (isV (nxD l zs m)),.cells g5 3 [.val (.int .i64 (m:Int))]] }) (fun a W rep=>(rep.fold 146 (i:=3) rfl rfl).lq) ?_
         (refine Y_go 600 ?_; dsimp only[go_sem,Nat.reduceBEq,Nat.reduceMul,reduceAdd])
         rw[hk1]
         have hcl2:(nxD l zs m).length≤4000:=by omega
         refine⟨⟨by simp only[maxLen]; omega,by omega⟩,fun A5 c5=>⟨bdk,by rw[zj23,List.length_set,hLl]; omega,((m+1:Nat):Int),ArOk.to (by omega) (by omega) (by omega),zj00 fun a W rep=>again2 (m+1,A5,c5) (by show m+1≤_; omega) (by show _ - (m+1) < _ - m; omega) a W (rep.res.le (by (simp only[go_sem,lk,Nat.reduceBEq,reduceLT,reduceAdd] <;> try simp)) ?_)⟩⟩
         have s3:setn (cellsR (L.set k ⟨⟨fr,to,nxD l zs m⟩,nA,nC⟩)) (k*3+2) (.slice A5 ((nxD l zs m).length+1) c5)=cellsR (L.set k ⟨⟨fr,to,nxD l zs m++[(m:Int)]⟩,A5,c5⟩):=by
          rw[zj49 (p':=⟨⟨fr,to,nxD l zs m++[(m:Int)]⟩,A5,c5⟩) (pc _ _ _ _) (by omega) (fun j hj=>by
           have:j=0∨j=1∨j=2:=by omega
           rcases this with h | h | h <;> subst h <;> simp[PR.cells]),List.set_set]
         rw[s3]
         simp only
         rw[hstep,if_pos rfl]
         (simp only[go_sem,lk,Nat.reduceBEq,reduceLT,reduceAdd] <;> try simp)
         simp[isV]
       | false =>
        simp only[bsv]
        (refine Y_go 600 ?_; dsimp only[go_sem,Nat.reduceBEq])
        rw[hi1]
        refine⟨fun hlt3=>?_,fun hge3=>?_⟩
        ·have hlt3:i < zs.length:=by have:=of_decide_eq_true hlt3; omega
         obtain⟨z,hz,hzl⟩:=getz hlt3
         have hz1:((z:Nat):Int).toNat=z:=by omega
         refine⟨⟨by omega,by omega⟩,(z:Int),by rw[Nat.mul_one]; exact zj3b _ _ _ hz,⟨by omega,by omega⟩,nuI l z,by rw[hz1,Nat.mul_one]; exact zj3b _ _ _ (nuT_get hzl),((i+1:Nat):Int),ArOk.to (by omega) (by omega) (by omega),zj00 fun a W rep=>again3 (i+1) (by show i+1≤_; omega) (by show _ - (i+1) < _ - i; omega) a W ?_⟩
         rw[stp _ hz,hz1,Bool.false_or]
         have rep1:=zj1l 15 rep rfl
         generalize (nuI l z == (m:Int))=d2 at rep1 ⊢
         cases d2 <;> exact rep1.le (by simp only[bsv]; (simp only[go_sem,lk,Nat.reduceBEq,reduceLT,reduceAdd] <;> try simp)) (by (simp only[go_sem,lk,Nat.reduceBEq,reduceLT,reduceAdd] <;> try simp))
        ·have hin:=hall (by have:=of_decide_eq_false hge3; omega)
         rw[← hin,if_neg (by simp)] at hstep
         refine⟨((m+1:Nat):Int),ArOk.to (by omega) (by omega) (by omega),zj00 fun a W rep=>again2 (m+1,nA,nC) (by show m+1≤_; omega) (by show _ - (m+1) < _ - m; omega) a W (rep.le (by (simp only[go_sem,lk,Nat.reduceBEq,reduceLT,reduceAdd] <;> try simp)) ?_)⟩
         simp only
         rw[hstep]
         (simp only[go_sem,lk,Nat.reduceBEq,reduceLT,reduceAdd] <;> try simp)
     ·have hme:m=(bgL l).length:=by have:=of_decide_eq_false hgem; omega
      subst hme
      rw[hnx]
      refine⟨((k+1:Nat):Int),ArOk.to (by omega) (by omega) (by omega),zj00 fun a W rep=>?_⟩
      have rep2:Rep ⟨b,N,st,153,[]⟩ { F:=[(0,.val (.slice B l.length bc)),(8,.own 0 0),(9,.own 1 0),(11,.val (.int .i64 ((k+1:Nat):Int)))],H:=[.own 3 0 1 (some ⟨g1,0,none⟩) (l.length+1) (l.length+1) (isV (nuT l l.length)),.own 35 0 3 oA (bgL l).length oC (cellsR (L.set k ⟨⟨fr,to,nxL l (bgL l) to⟩,nA,nC⟩))]++[.own 3 0 1 nA (nxL l (bgL l) to).length nC (isV (nxL l (bgL l) to))] } a W:=(rep.pick [0,1,3] (by decide)).lp
      obtain⟨rep3,ov⟩:=rep2.cut (H1:=[.own 3 0 1 (some ⟨g1,0,none⟩) (l.length+1) (l.length+1) (isV (nuT l l.length)),.own 35 0 3 oA (bgL l).length oC (cellsR (L.set k ⟨⟨fr,to,nxL l (bgL l) to⟩,nA,nC⟩))]) rfl (rep2.le (s':={ F:=[(0,.val (.slice B l.length bc)),(8,.own 0 0),(9,.own 1 0),(11,.val (.int .i64 ((k+1:Nat):Int)))],H:=[.own 3 0 1 (some ⟨g1,0,none⟩) (l.length+1) (l.length+1) (isV (nuT l l.length)),.own 35 0 3 oA (bgL l).length oC (cellsR (L.set k ⟨⟨fr,to,nxL l (bgL l) to⟩,nA,nC⟩))] }) (by (simp only[go_sem,lk,Nat.reduceBEq,reduceLT,reduceAdd] <;> try simp)) (by (simp only[go_sem,lk,Nat.reduceBEq,reduceLT,reduceAdd] <;> try simp))).frame
      have hrow:=rep2.heap.rowOff (i:=0) rfl 153 []
      have hpa:(⟨fr,to,nxL l (bgL l) to⟩:Pa)=partL l (bgL l) k:=by
       unfold partL
       rw[← hto,List.getD_eq_getElem?_getD,hx]; rfl
      refine again (L.set k (⟨⟨fr,to,nxL l (bgL l) to⟩,nA,nC⟩:PR),k+1,W,W.heap.size,_) ⟨by simp only; omega,hov.trans ov,hL.step ov hlt hpa hrow fun a ha=>?_⟩ (by simp only; omega) a W rep3
      have h5:=(rep2.heap.off (i:=0) (g:=a.block) rfl (by simp only at ha; rw[ha]; rfl)).2.2
      refine Classical.byContradiction fun hlt=>h5 ?_
      exact hov.sub _ ⟨by show a.block < w.heap.size; omega,by simp⟩
   have s2:∀ to:Int,setn (cellsR (L.set k ⟨⟨fr,l.length,[]⟩,none,0⟩)) (k*3+1) (.int .i64 to)=cellsR (L.set k ⟨⟨fr,to,[]⟩,none,0⟩):=fun to=>by
    rw[zj49 (p':=⟨⟨fr,to,[]⟩,none,0⟩) (pc _ _ _ _) (by omega) (fun j hj=>by
     have:j=0∨j=1∨j=2:=by omega
     rcases this with h | h | h <;> subst h <;> rfl),List.set_set]
   have gto:∀ to:Int,(cellsR (L.set k ⟨⟨fr,to,[]⟩,none,0⟩))[k*3+1]? = some (.int .i64 to):=fun to=>by rw[zj0m (pc _ _ _ _) (by omega)]; rfl
   have lb:∀ L':List PR,L'.length=(bgL l).length→k*3+1+1≤(cellsR L').length:=fun L' h=>by rw[zj23,h]; omega
   refine⟨bdk,lb _ hLl,((k+1:Nat):Int),ArOk.to (by omega) (by omega) (by omega),fun hlt2=>?_,fun hge2=>?_⟩
   ·have hlt2:k+1 < (bgL l).length:=by have:=of_decide_eq_true hlt2; omega
    have hy:(bgL l)[k+1]? = some (bgL l)[k+1]:=List.getElem?_eq_getElem hlt2
    generalize (bgL l)[k+1]=to at hy
    have hr:=zj10 (List.mem_of_getElem? hy)
    have hk2:((k+1:Nat):Int).toNat*3=(k+1)*3:=by omega
    refine⟨((k+1:Nat):Int),ArOk.to (by omega) (by omega) (by omega),⟨by omega,by omega⟩,to,?_,bdk,lb _ (by rw[List.length_set]; exact hLl),bdk,to,?_,to - 1,ArOk.toSub (by omega) (by omega) (by omega),?_⟩
    ·have h1:(L.set k ⟨⟨fr,l.length,[]⟩,none,0⟩)[k+1]? = some (pr0 to):=by rw[List.getElem?_set,if_neg (by omega)]; exact hL.rest _ _ (by omega) hy
     have:=zj0m (k:=0) h1 (by omega)
     rw[Nat.add_zero] at this
     rw[hk2,this]; rfl
    ·rw[s2,gto]
    ·rw[s2]
     exact fun a W rep=>raw to (by rw[toL_succ,hy]; rfl) a W (rep.lq)
   ·have hge2:¬ k+1 < (bgL l).length:=by have:=of_decide_eq_false hge2; omega
    refine⟨bdk,l.length,gto _,(l.length:Int) - 1,ArOk.toSub (by omega) (by omega) (by omega),fun a W rep=>raw l.length (by rw[toL_succ,List.getElem?_eq_none (by omega)]; rfl) a W (rep.lq)⟩
  ·have hke:k=(bgL l).length:=by have:=of_decide_eq_false hge; omega
   subst hke
   have hfin:=hL.fin
   refine zj02 (vs:=[.slice oA (bgL l).length oC]) r89 rfl rfl fun W hW=>hR _ _ ⟨oA,oC,L,by rw[hLl]; rfl,hfin,?_,hL.nx.at hW,hL.new,(hov.heap hW).fresh'⟩
   rw[hLl]
   exact HeapOk.owns (b:=w) (N:=w.heap.size) (nt:=153) (mk:=[]) (hov.heap hW) (i:=1) rfl
theorem parts89 (l:List In) (B:Option Addr) (bc:Nat) (w:World) (hl:l.length≤1024) (hB:RowAt w B (cellsI l)) :
  CallsV Tryz.prog 89 [.slice B l.length bc] w (PartsR l w):=by
 refine zj03 (keep:=K89) (nt:=153) (svs:=[.val (.slice B l.length bc)]) Tryz.func89 x89 n89 (by simp) (by simp[IsL,Is]) fun R hR=>?_
 (refine Y_go 600 ?_; dsimp only[go_sem,reduceAdd,Nat.reduceBEq,Int.reduceToNat,Nat.reduceMul])
 have hn1:((l.length+1:Nat):Int).toNat=l.length+1:=by omega
 refine⟨((l.length+1:Nat):Int),ArOk.to (by omega) (by omega) (by omega),⟨by omega,by omega,by omega,by omega⟩,fun g=>?_⟩
 rw[hn1,zj6g]
 refine⟨⟨by omega,by omega⟩,by rw[bsV_len,List.length_replicate]; omega,?_⟩
 rw[bsV_set]
 have go118:∀ (i:Nat) (x:In),l[i]? = some x→∀ {H:List SO} (W:World),HeapOk ⟨w,w.heap.size,[],153,[]⟩ H W→CallsV Tryz.prog 118 [.slice B l.length bc,.int .i64 (i:Int)] W (GoR l i x W):=fun i x hx H W hW=>goes118 l i x B bc W hx hl (hB.keep hW.fresh')
 refine zj04 (α:=Nat) (fun i=>i≤l.length) (fun _=>⟨w,w.heap.size,[],153,[]⟩) (fun i=>{ F:=[(0,.val (.slice B l.length bc)),(3,.own 0 0),(4,.val (.int .i64 (i:Int)))],H:=[.own 4 0 1 (some ⟨g,0,none⟩) (l.length+1) (l.length+1) (bsV (fsT l i))] }) (fun i=>l.length - i) (fun _=>rfl) ?start ?round
 case start =>
  intro a W rep
  exact⟨0,Nat.zero_le _,rep.le (by (simp only[go_sem,lk,Nat.reduceBEq,reduceLT,reduceAdd] <;> try simp)) (by (simp only[go_sem,lk,Nat.reduceBEq,reduceLT,reduceAdd] <;> try simp); rfl)⟩
 case round =>
  intro i hi I again
  have hi:i≤l.length:=hi
  (refine Y_go 600 ?_; dsimp only[go_sem,Nat.reduceBEq,reduceAdd])
  refine⟨fun hlt=>?_,fun hge=>?_⟩
  ·have hlt:i < l.length:=by have:=of_decide_eq_true hlt; omega
   have hx:l[i]? = some l[i]:=List.getElem?_eq_getElem hlt
   generalize l[i]=x at hx
   have hst:=fsT_step hx
   have hfl:=zj48 l i
   refine zj07 (vs:=[.slice B l.length bc,.int .i64 (i:Int)]) rfl (R:=fun W v W'=>GoR l i x W v W') (fun W hW=>go118 i x hx W hW) fun W v W' hW ⟨A,c,hv,ho,hk⟩=>?_
   obtain⟨A',c',e1,e2,e5,_⟩:=hW.gain ho hk
   injection e1 with e3 _ e4
   subst e3; subst e4; subst hv
   have hgl:=zj3l l.length i x
   have hgr:∀ t ∈ goesL l.length i x,0≤t∧t < l.length:=fun t ht=>zj1u ht
   generalize hz:goesL l.length i x=zs at *
   cases he:endsB x with
   | false =>
    refine⟨.tup [.own 1 0,.bf],_,?_,e2,e5,?_⟩
    ·simp only[Is,IsL]; exact⟨_,⟨_,_,⟨_,_,_,_,_,_,_,rfl,Nat.le_refl _,⟨_,_,_,rfl⟩,fun _=>rfl⟩,⟨_,_,rfl,rfl,rfl⟩,rfl⟩,rfl⟩
    clear e5 e2 hW ho hk
    (refine Y_go 600 ?_; dsimp only[go_sem,Nat.reduceBEq])
    have hst:fsT l (i+1)=fsT l i:=by rw[hst]; unfold fsI; rw[he]; rfl
    refine⟨((i+1:Nat):Int),ArOk.to (by omega) (by omega) (by omega),zj00 fun a W rep=>again (i+1) (by show i+1≤_; omega) (by show _ - (i+1) < _ - i; omega) a W (rep.le (by (simp only[go_sem,lk,Nat.reduceBEq,reduceLT,reduceAdd] <;> try simp)) ?_)⟩
    rw[hst]; (simp only[go_sem,lk,Nat.reduceBEq,reduceLT,reduceAdd] <;> try simp)
   | true =>
    refine⟨.tup [.own 1 0,.bt],_,?_,e2,e5,?_⟩
    ·simp only[Is,IsL]; exact⟨_,⟨_,_,⟨_,_,_,_,_,_,_,rfl,Nat.le_refl _,⟨_,_,_,rfl⟩,fun _=>rfl⟩,⟨_,_,rfl,rfl,rfl⟩,rfl⟩,rfl⟩
    clear e5 e2 hW ho hk
    have hst:fsT l (i+1)=putB ((fsT l i).set (i+1) true) zs:=by rw[hst]; unfold fsI; rw[he,hz]; rfl
    (refine Y_go 600 ?_; dsimp only[go_sem,Nat.reduceBEq])
    have hi1:((i+1:Nat):Int).toNat*1=i+1:=by omega
    refine⟨((i+1:Nat):Int),ArOk.to (by omega) (by omega) (by omega),⟨by omega,by omega⟩,by rw[bsV_len]; omega,?_⟩
    rw[hi1,bsV_set]
    refine zj04 (α:=Nat) (fun k=>k≤zs.length) (fun _=>⟨w,w.heap.size,[],153,[]⟩) (fun k=>{ F:=[(0,.val (.slice B l.length bc)),(3,.own 0 0),(4,.val (.int .i64 (i:Int))),(5,.own 1 0),(7,.val (.int .i64 (k:Int)))],H:=[.own 4 0 1 (some ⟨g,0,none⟩) (l.length+1) (l.length+1) (bsV (putB ((fsT l i).set (i+1) true) (zs.take k))),.own 3 0 1 A zs.length c (isV zs)] }) (fun k=>zs.length - k) (fun _=>rfl) ?start2 ?round2
    case start2 =>
     intro a W rep
     exact⟨0,Nat.zero_le _,rep.le (by (simp only[go_sem,lk,Nat.reduceBEq,reduceLT,reduceAdd] <;> try simp)) (by (simp only[go_sem,lk,Nat.reduceBEq,reduceLT,reduceAdd] <;> try simp); rfl)⟩
    case round2 =>
     intro k hk I2 again2
     have hk:k≤zs.length:=hk
     (refine Y_go 600 ?_; dsimp only[go_sem,Nat.reduceBEq])
     refine⟨fun hltk=>?_,fun hgek=>?_⟩
     ·have hltk:k < zs.length:=by have:=of_decide_eq_true hltk; omega
      have ht:zs[k]? = some zs[k]:=List.getElem?_eq_getElem hltk
      have htr:=hgr _ (List.getElem_mem hltk)
      generalize zs[k]=t at ht htr
      have hk1:((k:Nat):Int).toNat=k:=by omega
      rw[hk1]
      refine⟨⟨by omega,by omega⟩,t,by rw[Nat.mul_one]; exact zj3b _ _ _ ht,⟨by omega,by omega⟩,by rw[bsV_len,putB_len,List.length_set]; omega,((k+1:Nat):Int),ArOk.to (by omega) (by omega) (by omega),zj00 fun a W rep=>again2 (k+1) (by show k+1≤_; omega) (by show _ - (k+1) < _ - k; omega) a W (rep.le (by (simp only[go_sem,lk,Nat.reduceBEq,reduceLT,reduceAdd] <;> try simp)) ?_)⟩
      rw[Nat.mul_one,bsV_set,zj1t ht,putB_snoc]
      (simp only[go_sem,lk,Nat.reduceBEq,reduceLT,reduceAdd] <;> try simp)
     ·have hkl:k=zs.length:=by have:=of_decide_eq_false hgek; omega
      subst hkl
      refine⟨((i+1:Nat):Int),ArOk.to (by omega) (by omega) (by omega),zj00 fun a W rep=>again (i+1) (by show i+1≤_; omega) (by show _ - (i+1) < _ - i; omega) a W (rep.le (by (simp only[go_sem,lk,Nat.reduceBEq,reduceLT,reduceAdd] <;> try simp)) ?_)⟩
      rw[hst,List.take_length]; (simp only[go_sem,lk,Nat.reduceBEq,reduceLT,reduceAdd] <;> try simp)
  ·have hil:i=l.length:=by have:=of_decide_eq_false hge; omega
   subst hil
   clear again
   refine⟨((l.length+1:Nat):Int),ArOk.to (by omega) (by omega) (by omega),⟨by omega,by omega,by omega,by omega⟩,fun g1=>?_⟩
   rw[hn1]
   refine zj04 (α:=Nat × Option Addr × Nat) (fun q=>q.1≤l.length) (fun _=>⟨w,w.heap.size,[],153,[]⟩) (fun q=>{ F:=[(0,.val (.slice B l.length bc)),(3,.own 0 0),(8,.own 1 0),(9,.own 2 0),(10,.val (.int .i64 (q.1:Int)))],H:=[.own 4 0 1 (some ⟨g,0,none⟩) (l.length+1) (l.length+1) (bsV (fsT l l.length)),.own 3 0 1 (some ⟨g1,0,none⟩) (l.length+1) (l.length+1) (isV (nuT l q.1)),.own 35 0 3 q.2.1 ((frT l q.1).map pr0).length q.2.2 (cellsR ((frT l q.1).map pr0))] }) (fun q=>l.length - q.1) (fun _=>rfl) ?start3 ?round3
   case start3 =>
    intro a W rep
    have rep1:=(rep.le (s':={ F:=[(0,.val (.slice B l.length bc)),(3,.own 0 0),(8,.own 1 0),(9,.val (.slice none 0 0)),(10,.val (.int .i64 0))],H:=[.own 4 0 1 (some ⟨g,0,none⟩) (l.length+1) (l.length+1) (bsV (fsT l l.length)),.own 3 0 1 (some ⟨g1,0,none⟩) (l.length+1) (l.length+1) (repN (l.length+1) [.int .i64 0])] }) (by (simp only[go_sem,lk,Nat.reduceBEq,reduceLT,reduceAdd] <;> try simp)) (by (simp only[go_sem,lk,Nat.reduceBEq,reduceLT,reduceAdd] <;> try simp))).adopt 9 35 3 rfl
    exact⟨(0,none,0),Nat.zero_le _,rep1.le (by (simp only[go_sem,lk,Nat.reduceBEq,reduceLT,reduceAdd] <;> try simp)) (by (simp only[go_sem,lk,Nat.reduceBEq,reduceLT,reduceAdd] <;> try simp); exact⟨by rw[nuT_zero,repI_zero],rfl,rfl⟩)⟩
   case round3 =>
    rintro ⟨i,oA,oC⟩ hi I again
    have hi:i≤l.length:=hi
    simp only at again ⊢
    (refine Y_go 600 ?_; dsimp only[go_sem,Nat.reduceBEq,Nat.reduceMul,reduceAdd])
    refine⟨fun hlt=>?_,fun hge=>?_⟩
    ·have hlt:i < l.length:=by have:=of_decide_eq_true hlt; omega
     have hi1:((i:Nat):Int).toNat=i:=by omega
     have hfb:(bsV (fsT l l.length))[i*1]? = some (.bool (fsB l i)):=by
      rw[Nat.mul_one]
      refine bsV_get ?_
      have:i < (fsT l l.length).length:=by rw[zj48]; omega
      unfold fsB
      rw[List.getD_eq_getElem?_getD,List.getElem?_eq_getElem this]; rfl
     have hfr:frT l (i+1)=if fsB l i then frT l i++[(i:Int)] else frT l i:=rfl
     have hfl:=frT_len l i
     have hnl:=nuT_len l i
     have hns:=nuT_step l i
     have hnu:nuI l i=((frT l (i+1)).length:Int) - 1:=rfl
     have bdn:(0:Int)≤(i:Int)∧(i:Int) < ((l.length+1:Nat):Int):=⟨by omega,by omega⟩
     have lbn:i*1+1≤(isV (nuT l i)).length:=by rw[zj4r,hnl]; omega
     rw[hi1]
     refine⟨bdn,fsB l i,hfb,fun hb=>?_,fun hb=>?_⟩
     ·rw[if_pos hb] at hfr
      have hlen:((frT l (i+1)).map pr0).length=((frT l i).map pr0).length+1:=by rw[hfr]; simp
      have hcel:cellsR ((frT l (i+1)).map pr0)=cellsR ((frT l i).map pr0)++[.int .i64 (i:Int),.int .i64 0,.slice none 0 0]:=by
       rw[hfr,List.map_append]; simp[cellsR,PR.cells,pr0]
      have hml:((frT l i).map pr0).length=(frT l i).length:=List.length_map _
      intro g5
      refine⟨⟨by simp only[maxLen]; omega,by omega⟩,fun A5 c5=>⟨nuI l i,ArOk.toSub (by rw[hnu,hfr]; simp) (by rw[hnu]; omega) (by rw[hnu,hfr]; simp; omega),bdn,lbn,((i+1:Nat):Int),ArOk.to (by omega) (by omega) (by omega),zj00 fun a W rep=>again (i+1,A5,c5) (by show i+1≤_; omega) (by show _ - (i+1) < _ - i; omega) a W (rep.res.le (by (simp only[go_sem,lk,Nat.reduceBEq,reduceLT,reduceAdd] <;> try simp)) ?_)⟩⟩
      simp only
      rw[hns,hlen,hcel,Nat.mul_one,isV_set]
      (simp only[go_sem,lk,Nat.reduceBEq,reduceLT,reduceAdd] <;> try simp)
     ·rw[if_neg (by simp[hb])] at hfr
      have hml:((frT l i).map pr0).length=(frT l i).length:=List.length_map _
      refine⟨nuI l i,ArOk.toSub (by rw[hnu,hfr,hml]) (by rw[hnu]; omega) (by rw[hnu,hfr]; omega),bdn,lbn,((i+1:Nat):Int),ArOk.to (by omega) (by omega) (by omega),zj00 fun a W rep=>again (i+1,oA,oC) (by show i+1≤_; omega) (by show _ - (i+1) < _ - i; omega) a W (rep.le (by (simp only[go_sem,lk,Nat.reduceBEq,reduceLT,reduceAdd] <;> try simp)) ?_)⟩
      simp only
      rw[hns,hfr,Nat.mul_one,isV_set]
      (simp only[go_sem,lk,Nat.reduceBEq,reduceLT,reduceAdd] <;> try simp)
    ·have hil:i=l.length:=by have:=of_decide_eq_false hge; omega
     subst hil
     clear again
     rw[frT_all]
     refine G.le (E':=⟨w,w.heap.size,[],153,[]⟩) rfl (s':={ F:=[(0,.val (.slice B l.length bc)),(8,.own 0 0),(9,.own 1 0),(11,.val (.int .i64 0))],H:=[.own 3 0 1 (some ⟨g1,0,none⟩) (l.length+1) (l.length+1) (isV (nuT l l.length)),.own 35 0 3 oA (bgL l).length oC (cellsR ((bgL l).map pr0))] }) (fun a W rep=>(rep.pick [1,2] (by decide)).lp) ?_
     exact ph3 hl hB hR g1 oA oC
end Go.Proofs.YtlbiogokpadaoaaGreatDoor
