/- The engine: append. -/
import Derived.Test.YtgghmmjoplddbaaGreatDoorSxSound
import Derived.Deep.Upon
import Derived.Laws.BytesString
import Derived.Laws.StructEq
import Derived.Laws.Slices
set_option linter.unusedSimpArgs false
set_option linter.unusedVariables false
set_option linter.unnecessarySimpa false
namespace Go.Sx
section
variable {E:Env} {P:Program} {s:SS} {K:SV→List SO→Prop} {o:Oper} {a:Act} {W:World}
def SrcOk (W:World) (sz:Nat) (x:Value) (m:Nat) (news:List Value):Prop :=
 news.length=m*sz∧(∀ u ∈ news,u.oneCell'=true)∧((∃ a c,x=.slice (some a) m c∧∀ j u,news[j]? = some u→W.cell? (a.add j)=some u)∨(m=0∧∃ c,x=.slice none 0 c)∨∃ b,x=.string b∧sz=1∧m=b.size∧news=byteCells b)
theorem SrcOk.src {sz m:Nat} {x:Value} {news:List Value} {tx:TypeId} (hk:(∃ e',P.underlying tx=some (.slice e'))∨P.underlying tx=some .string) (h:SrcOk W sz x m news):Src P sz tx x m news W:=by
 obtain⟨hl,h1,⟨a,c,rfl,hc⟩ | ⟨rfl,c,rfl⟩ | ⟨b,rfl,rfl,rfl,rfl⟩⟩:=h
 ·exact⟨hk,fun _=>rfl,run_firstCells_some W sz m a m c news hl hc,run_firstCells_some W.drew sz m a m c news hl (by simpa using hc),hl,h1⟩
 ·have hn:news=[]:=List.eq_nil_of_length_eq_zero (by simpa using hl)
  subst hn
  exact⟨hk,fun _=>rfl,run_firstCells_none W sz 0 0 c,run_firstCells_none W.drew sz 0 0 c,hl,h1⟩
 ·exact⟨hk,fun _=>rfl,firstCells_string b W,firstCells_string b W.drew,hl,h1⟩
theorem zj2n (t tx ty e:TypeId) (i:TypeInfo) (ht:P.underlying t=some (.slice e)) (hi:P.info? e=some i)
  (g off sLen sCap:Nat) (cur:Array Value) (hg:W.heap[g]? = some (.cells cur e (0,0)))
  (x:Value) (m:Nat) (news:List Value) (hs:Src P i.size tx x m news W) (hroom:sLen+m≤sCap) (hfit:off+sLen*i.size+news.length≤cur.size) :
  (Builtin.append_ #[t,tx] ty #[.slice (some ⟨g,off,none⟩) sLen sCap,x]).run P W =
   .ok (.slice (some ⟨g,off,none⟩) (sLen+m) sCap) (W.setRow g (splice cur.toList (off+sLen*i.size) news).toArray):=by
 have hst:=run_storeCells_at P g (off+sLen*i.size) e news 0 cur W hg (by simpa using hfit) hs.one
 simp only[Nat.add_zero] at hst
 rw[zj3e _ _ _ (by simpa using hfit)]
 rcases hs.kind with⟨e',hk⟩ | hk <;> simp[Builtin.append_,run_underlying ht,run_underlying hk,sizeOf,typeInfo,hi,hs.len,hroom,hs.cells,Addr.add_lit,hst]
theorem run_app {T T' ty t:TypeId} {i:TypeInfo} {z:Value} {sz bytes:Nat} (hT:P.underlying T=some (.slice t)) (hk:(∃ e',P.underlying T'=some (.slice e'))∨P.underlying T'=some .string) (hi:P.info? t=some i) (hz:i.zero=some z) (hsz:i.size=sz) (hby:i.bytes=bytes)
  (hzs:z.cells.size=sz) (hpos:0 < sz) {v x:Value} {n m:Nat} {xs news:List Value} (hown:World.ownsB W 0 t sz v n xs) (hs:SrcOk W sz x m news) (h63:n+m≤maxLen) (hb:(n+m)*bytes≤140737488355328) :
  ∃ v' W',(Builtin.append_ #[T,T'] ty #[v,x]).run P W=.ok v' W'∧World.ownsB W' 0 t sz v' (n+m) (xs++news)∧W.grownBy W' v.ownBlock∧(v'.ownBlock=v.ownBlock∨v'.ownBlock=some W.heap.size):=by
 subst hsz; subst hby
 have hsmall:n+m≤9223372036854775807:=by simp only[maxLen] at h63; omega
 have hsrc:=hs.src (P:=P) hk
 have hl:=hs.1
 have h1:=hs.2.1
 have hlen:(xs++news).length=(n+m)*i.size:=by rw[List.length_append,hown.1,hl,Nat.add_mul]
 -- nothing appended
 by_cases hm0:m=0
 ·subst hm0
  have hn:news=[]:=List.eq_nil_of_length_eq_zero (by simpa using hl)
  subst hn
  refine⟨v,W,?_,by simpa using hown,World.grownBy.refl W _,.inl rfl⟩
  rcases hown.2 with⟨A,hv,hn0,_⟩ | ⟨g,b,cap,cur,hv,_,_,hnc,_⟩
  ·rw[hv]; exact run_append_nothing W T T' ty t i hT hi A 0 0 (Nat.le_refl _) x hsrc
  ·rw[hv]; exact run_append_nothing W T T' ty t i hT hi _ _ cap hnc x hsrc
 have grown:∀ (old:Nat),∀ (row:Option Nat),
   World.ownsB (W.drew.alloc (.cells ((xs++news).toArray++Builtin.zeroCells z.cells (grownCap W (n+m) old t - (n+m))) t)) 0 t i.size
    (.slice (some ⟨W.heap.size,0,none⟩) (n+m) (grownCap W (n+m) old t)) (n+m) (xs++news) ∧
   W.grownBy (W.drew.alloc (.cells ((xs++news).toArray++Builtin.zeroCells z.cells (grownCap W (n+m) old t - (n+m))) t)) row:=by
  intro old row
  have hge:=grownCap_ge W (n+m) old t
  have hcm:grownCap W (n+m) old t≤maxLen:=grownCap_le_maxLen W (n+m) old t h63
  refine⟨⟨hlen,.inr ⟨W.heap.size,0,_,_,rfl,Nat.zero_le _,heap_alloc_new W.drew _,hge,hcm,?_,?_⟩⟩,⟨rfl,rfl,rfl,by simp,fun k hk _=>heap_alloc_old W.drew _ k hk⟩⟩
  ·simp only[Array.size_append,List.size_toArray,size_zeroCells,hzs,hlen,← Nat.add_mul,Nat.zero_add]
   congr 1
   omega
  ·simp only[Array.toList_append,List.drop_zero]
   rw[← hlen]
   exact List.take_left
 rcases hown.2 with⟨A,rfl,rfl,_⟩ | ⟨g,b,cap,cur,rfl,_,hg,hnc,hcm,hcs,htake⟩
 ·have hx:xs=[]:=List.eq_nil_of_length_eq_zero (by simpa using hown.1)
  subst hx
  have hf:(Builtin.firstCells i.size 0 (.slice A 0 0)).run P W.drew=.ok ([]:List Value).toArray W.drew:=by
   cases A with
   | none=>exact run_firstCells_none W.drew i.size 0 0 0
   | some b=>exact run_firstCells_some W.drew i.size 0 b 0 0 [] (by simp) (by simp)
  have hr:=run_append_grow_src (P:=P) W T T' ty t i z hT hi hz A 0 0 [] hf x m news hsrc (by omega) (by omega) (growslice_fits (by omega) hb)
  have hgr:=grown 0 (Value.ownBlock (.slice A 0 0))
  exact⟨_,_,hr,hgr.1,hgr.2,.inr rfl⟩
 ·have hsz:(n+m)*i.size=n*i.size+news.length:=by rw[hl,Nat.add_mul]
  by_cases hroom:n+m≤cap
  ·have hfit:b+n*i.size+news.length≤cur.size:=by
    have:=Nat.mul_le_mul_right i.size hroom
    omega
   have hr:=zj2n (P:=P) T T' ty t i hT hi g b n cap cur hg x m news hsrc hroom hfit
   refine⟨_,_,hr,⟨hlen,.inr ⟨g,b,cap,_,rfl,Nat.zero_le _,setRow_heap W g cur _ t _ hg,hroom,hcm,?_,?_⟩⟩,⟨rfl,rfl,rfl,by simp[World.setRow],fun k _ hk=>zj2g W g _ k (fun e=>hk (by simp[Value.ownBlock,e]))⟩,.inl rfl⟩
   ·simp[zj0l,hcs]
   ·rw[zj3e _ _ _ (by simpa using hfit)]
    have e1:(cur.toList.take (b+n*i.size)).drop b=xs:=by rw[← htake,List.drop_take]; congr 1; omega
    have hlb:(cur.toList.take (b+n*i.size)).length=b+n*i.size:=by simp; omega
    show List.take ((n+m)*i.size) (List.drop b (cur.toList.take (b+n*i.size)++news++cur.toList.drop (b+n*i.size+news.length)))=xs++news
    rw[List.append_assoc,List.drop_append_of_le_length (by omega),e1,← List.append_assoc,← hlen,List.take_left]
  ·have holds:∀ j u,xs[j]? = some u→W.cell? ((⟨g,b,none⟩:Addr).add j)=some u:=by
    intro j u hj
    rw[add_lit,cell_of_row W g _ cur t (0,0) hg]
    rw[← htake,List.getElem?_take] at hj
    split at hj
    ·rw[List.getElem?_drop] at hj; simpa using hj
    ·cases hj
   have hr:=run_append_grow_src (P:=P) W T T' ty t i z hT hi hz (some ⟨g,b,none⟩) n cap xs (run_firstCells_some W.drew i.size n ⟨g,b,none⟩ n cap xs hown.1 (by simpa using holds)) x m news hsrc (by omega) (by omega) (growslice_fits (by omega) hb)
   have hgr:=grown cap (Value.ownBlock (.slice (some ⟨g,b,none⟩) n cap))
   exact⟨_,_,hr,hgr.1,hgr.2,.inr rfl⟩
theorem own_of {v:Value} {n sz:Nat} {t:TypeId} {xs:List Value} {H:List SO} (h:World.ownsB W 0 t sz v n xs):∃ A c,v=.slice A n c∧v.ownBlock=A.map (·.block)∧∀ ver,EntryOk H (fun g=>W.heap[g]?) (.own t ver sz A n c xs):=by
 obtain⟨hl,⟨A,rfl,rfl,hA⟩ | ⟨g,b,cap,cur,rfl,_,hg,h1,h2,h3,h4⟩⟩:=h
 ·exact⟨A,0,rfl,by cases A <;> rfl,fun _=>⟨hl,.inl ⟨rfl,rfl,fun a ha=>(hA a ha).2⟩⟩⟩
 ·exact⟨some ⟨g,b,none⟩,cap,rfl,rfl,fun _=>⟨hl,.inr ⟨g,b,cur,rfl,hg,h1,h2,h3,h4⟩⟩⟩
theorem of_own {n c sz ver:Nat} {A:Option Addr} {t:TypeId} {xs:List Value} {H:List SO} (h:EntryOk H (fun g=>W.heap[g]?) (.own t ver sz A n c xs)):World.ownsB W 0 t sz (.slice A n c) n xs:=by
 obtain⟨hl,⟨rfl,rfl,hA⟩ | ⟨g,b,cur,rfl,hg,h1,h2,h3,h4⟩⟩:=h
 ·exact⟨hl,.inl ⟨A,rfl,rfl,fun a ha=>⟨Nat.zero_le _,hA a ha⟩⟩⟩
 ·exact⟨hl,.inr ⟨g,b,c,cur,rfl,Nat.zero_le _,hg,h1,h2,h3,h4⟩⟩
theorem zj50 {sz:Nat} (hpos:0 < sz) {x:SV} {xv:Value} {C:Nat→List Value→Prop} (rep:Rep E s a W) (hx:Is s.H x xv) (h:xsrc E s.H sz x C):∃ m news,SrcOk W sz xv m news∧C m news:=by
 unfold xsrc at h
 split at h
 ·rename_i j off m c
  simp only[Is] at hx
  obtain⟨g,hg,rfl⟩:=hx
  rw[blk_eq] at hg
  split at h
  case h_2=>exact h.elim
  rename_i g' t' l hn
  rw[hn] at hg; simp only[Option.bind_some,SO.blk] at hg; injection hg with hg; subst hg
  split at h
  case h_2=>exact h.elim
  rename_i svs htk
  split at h
  case h_2=>exact h.elim
  rename_i vs hok hd
  obtain⟨cur,hc,hL⟩:=rep.heap.ents j _ hn
  obtain⟨hL',hlen,_⟩:=hL.takeDrop htk
  have e:=zj0t svs hd hL'
  subst e
  refine⟨m,_,⟨by rw[hL'.length,hlen],okL_one hok hL',.inl ⟨_,c,rfl,?_⟩⟩,h⟩
  intro k u hu
  rw[List.getElem?_take] at hu
  split at hu
  ·rw[List.getElem?_drop] at hu
   rw[add_lit,cell_of_row W g' _ cur t' (0,0) hc]
   simpa using hu
  ·cases hu
 ·rename_i B m c
  simp only[Is] at hx
  subst hx
  obtain⟨news,⟨h1,h2,h3⟩,hC⟩:=h
  refine⟨m,news,⟨h1,h3,?_⟩,hC⟩
  cases B with
  | some A =>
   refine .inl ⟨A,c,rfl,fun j u hu=>?_⟩
   have hj:j < news.length:=(List.getElem?_eq_some_iff.1 hu).1
   obtain⟨A',e,hold,hc⟩:=h2 (by omega)
   injection e with e; subst e
   have hb:(A.add j).block=A.block:=by unfold Addr.add; split <;> rfl
   have e2:W.cell? (A.add j)=E.b.cell? (A.add j):=by unfold World.cell?; rw[hb,rep.heap.keep.block A.block hold]
   rw[e2]; exact hc j u hu
  | none =>
   rcases Nat.eq_zero_or_pos (m*sz) with h0 | h0
   ·rcases Nat.eq_zero_or_pos m with hm | hm
    ·subst hm; exact .inr (.inl ⟨rfl,c,rfl⟩)
    ·rcases Nat.mul_eq_zero.1 h0 with e | e <;> omega
   ·obtain⟨A',e,_⟩:=h2 h0; cases e
 ·rename_i b
  simp only[Is] at hx
  subst hx
  obtain⟨rfl,hC⟩:=h
  exact⟨_,_,⟨by rw[Nat.mul_one]; exact byteCells_length b,fun u hu=>by
   obtain⟨_,_,rfl⟩:=List.mem_map.1 hu
   rfl,.inr (.inr ⟨b,rfl,rfl,rfl,rfl⟩)⟩,hC⟩
 ·rename_i j ver
  have hx':=hx
  simp only[Is] at hx'
  obtain⟨t0,ver',sz0,A,m,c,xs,hm,hle,_,hv⟩:=hx'
  obtain⟨t1,sz1,A1,n1,c1,xs1,he,⟨hsz,hone⟩,hk⟩:=zj1q h
  rw[hm] at he; injection he with he; injection he with f1 f2 f3 f4 f5 f6 f7
  subst f1; subst f2; subst f3; subst f4; subst f5; subst f6; subst f7
  subst hsz
  obtain⟨hl,hr⟩:=rep.heap.ents j _ hm
  refine⟨m,xs,⟨hl,hone,?_⟩,hk⟩
  rw[hv rfl]
  rcases hr with⟨rfl,rfl,hA⟩ | ⟨g,b,cur,rfl,hg,h1,h2,h3,h4⟩
  ·cases A with
   | none=>exact .inr (.inl ⟨rfl,0,rfl⟩)
   | some a'=>exact .inl ⟨a',0,rfl,fun k u hu=>by have:=(List.getElem?_eq_some_iff.1 hu).1; rw[hl] at this; simp at this⟩
  ·refine .inl ⟨_,c,rfl,fun k u hu=>?_⟩
   rw[add_lit,cell_of_row W g _ cur _ (0,0) hg]
   rw[← h4,List.getElem?_take] at hu
   split at hu
   ·rw[List.getElem?_drop] at hu; simpa using hu
   ·cases hu
 ·exact h.elim
theorem HExt.goneAt {H:List SO} {i g:Nat} {t:TypeId} {l:List SV} (hi:nth H i=some (.cells g t l)):HExt H (setn H i (.gone g)):=HExt.setBlk hi rfl rfl
theorem s_app {T T' t:TypeId} {sz bytes:Nat} {d x:Operand} {z:List Value} (hT:P.underlying T=some (.slice t)) (hsz:szT P t=some sz) (hby:bytesT P t=some bytes) (hz:zeroT P t=some z) (hzl:z.length=sz) (hpos:0 < sz) (hk:(∃ e',P.underlying T'=some (.slice e'))∨P.underlying T'=some .string)
  (ho:o.op=.call { callee:=.builtin .append,args:=#[d,x],argTypes:=#[T,T'] }) (rep:Rep E s a W) (h:xk E s K (.app t sz bytes d x)):Res E P s K o a W:=by
 obtain⟨i,hi⟩:∃ i,P.info? t=some i:=by
  unfold szT at hsz; cases hq:P.info? t with
  | none=>simp[hq] at hsz
  | some i=>exact⟨i,rfl⟩
 have hisz:i.size=sz:=by simpa [szT,hi] using hsz
 have hiby:i.bytes=bytes:=by simpa [bytesT,hi] using hby
 obtain⟨zv,hzv,hzc⟩:∃ zv,i.zero=some zv∧zv.cells.size=sz:=by
  unfold zeroT at hz; rw[hi] at hz
  simp only at hz
  split at hz
  ·rename_i zv hzv; injection hz with hz; exact⟨zv,hzv,by rw[← hz] at hzl; simpa using hzl⟩
  ·cases hz
 have run:∀ (n m:Nat) (xs news:List Value),World.ownsB W 0 t sz (a.eval d) n xs→SrcOk W sz (a.eval x) m news→n+m≤maxLen→(n+m)*bytes≤140737488355328 →
   ∃ v' W',(execOp a.eval o).run P W=.ok (.value v') W'∧World.ownsB W' 0 t sz v' (n+m) (xs++news)∧W.grownBy W' (a.eval d).ownBlock∧(v'.ownBlock=(a.eval d).ownBlock∨v'.ownBlock=some W.heap.size):=by
  intro n m xs news h1 h2 h3 h4
  obtain⟨v',W',hr,h5,h6,h7⟩:=run_app (P:=P) (ty:=o.type) hT hk hi hzv hisz hiby hzc hpos h1 h2 h3 h4
  exact⟨v',W',by simp[execOp,ho,resolve,invoke,builtin,hr],h5,h6,h7⟩
 have hd:=rep.ev d
 have lt_of:∀ {W':World} {A:Option Addr} {H:List SO} {n c:Nat} {xs:List Value} (g:Nat),A.map (·.block)=some g→EntryOk H (fun g=>W'.heap[g]?) (.own t 0 sz A n c xs)→g < W'.heap.size:=by
  intro W' A H n c xs g hA hent
  obtain⟨_,⟨_,_,e⟩ | ⟨g',b,cur,e,hg,_⟩⟩:=hent
  ·cases A with
   | none=>cases hA
   | some a' =>
    obtain⟨o,ho⟩:=e a' rfl
    have:a'.block=g:=by simpa using hA
    rw[this] at ho
    exact (Array.getElem?_eq_some_iff.1 ho).1
  ·subst e
   have:g'=g:=by simpa using hA
   subst this
   exact (Array.getElem?_eq_some_iff.1 hg).1
 simp only[xk,xapp] at h
 split at h
 ·rename_i e1
  rw[e1] at hd; simp only[Is] at hd
  obtain⟨m,news,hs,⟨hb1,hb2⟩,hk⟩:=zj50 hpos rep (rep.ev x) h
  obtain⟨v',W',hr,h5,h6,h7⟩:=run 0 m [] news (by rw[hd]; exact zj1b _ _ _ _) hs (by omega) (by simpa using hb2)
  simp only[List.nil_append,Nat.zero_add] at h5
  obtain⟨A,c,hv',hob,_⟩:=own_of (H:=s.H) h5
  obtain⟨_,_,hv2,_,hent⟩:=own_of (H:=s.H++[.own t 0 sz A m c news]) h5
  rw[hv'] at hv2; injection hv2 with q1 q2 q3; subst q1; subst q3
  rw[hd] at h6 h7
  refine⟨v',W',_,_,.inl hr,hk A c,?_,HExt.push _ _,?_⟩
  ·simp only[Is]
   exact⟨t,0,sz,A,m,c,news,by rw[nth_eq]; simp,Nat.le_refl _,⟨_,_,_,hv'⟩,fun _=>hv'⟩
  ·refine rep.heap.pushG (row:=none) h6.size h6.os h6.tape h6.output (fun j hj _=>h6.block j hj (by simp[Value.ownBlock])) (fun g e=>by cases e) (fun g hg=>?_) (hent 0)
   rw[hob] at h7
   refine⟨.inr ?_,lt_of g hg (hent 0)⟩
   simp only[SO.fp] at hg
   rw[hg] at h7
   rcases h7 with h7 | h7
   ·simp[Value.ownBlock] at h7
   ·injection h7 with h7; omega
 ·rename_i i ver e1
  rw[e1] at hd; simp only[Is] at hd
  obtain⟨t0,ver',sz0,A0,n,c0,xs,hm,hle,_,hv⟩:=hd
  obtain⟨t1,sz1,A1,n1,c1,xs1,he,hk⟩:=zj1q h
  rw[hm] at he; injection he with he; injection he with f1 f2 f3 f4 f5 f6 f7
  subst f1; subst f2; subst f3; subst f4; subst f5; subst f6; subst f7
  split at hk
  case h_2=>exact hk.elim
  rename_i q1 q2
  have q1:t0=t:=by simpa using q1
  have q2:sz0=sz:=by simpa using q2
  subst q1; subst q2
  obtain⟨m,news,hs,⟨hb1,hb2⟩,hk⟩:=zj50 hpos rep (rep.ev x) hk
  have hv:=hv rfl
  have hent0:=rep.heap.ents i _ hm
  obtain⟨v',W',hr,h5,h6,h7⟩:=run n m xs news (by rw[hv]; exact of_own hent0) hs hb1 hb2
  obtain⟨A,c,hv',hob,_⟩:=own_of (H:=s.H) h5
  obtain⟨_,_,hv2,_,hent⟩:=own_of (H:=setn s.H i (.own t0 (ver'+1) sz0 A (n+m) c (xs++news))) h5
  rw[hv'] at hv2; injection hv2 with q1 q2 q3; subst q1; subst q3
  have hext:HExt s.H (setn s.H i (.own t0 (ver'+1) sz0 A (n+m) c (xs++news))):=HExt.setOwn hm (by omega) (fun e=>by omega)
  have hob0:(a.eval d).ownBlock=A0.map (·.block):=by rw[hv]; cases A0 <;> rfl
  refine⟨v',W',_,_,.inl hr,hk A c,?_,hext,?_⟩
  ·simp only[Is]
   exact⟨_,_,_,_,_,_,_,zj0i _ (nth_lt hm),Nat.le_refl _,⟨_,_,_,hv'⟩,fun _=>hv'⟩
  ·refine rep.heap.set hm hext (fun g hg=>?_) (fun g hg hlt=>h6.block g hlt (by rw[hob0]; exact fun e=>hg e.symm)) h6.size h6.os h6.tape h6.output (hent _)
   have hlt:=lt_of g hg (hent 0)
   rw[hob,hob0] at h7
   simp only[SO.fp] at hg ⊢
   rw[hg] at h7
   rcases h7 with h7 | h7
   ·exact .inl h7.symm
   ·injection h7 with h7; exact .inr ⟨by omega,hlt⟩
 ·rename_i i n c0 e1
  rw[e1] at hd; simp only[Is] at hd
  obtain⟨g,hg,hv⟩:=hd
  rw[blk_eq] at hg
  split at h
  case h_2=>exact h.elim
  rename_i g' t' l hn
  rw[hn] at hg; simp only[Option.bind_some,SO.blk] at hg; injection hg with hg; subst hg
  split at h
  case h_2=>exact h.elim
  rename_i xs q1 q2 q3 hden
  have q1:t'=t:=by simpa using q1
  have q2:l.length=n*sz:=by simpa using q2
  have q3:c0=n:=by simpa using q3
  subst q1; subst q3
  obtain⟨m,news,hs,⟨hb1,hb2⟩,hk⟩:=zj50 hpos rep (rep.ev x) h
  obtain⟨cur,hc,hL⟩:=rep.heap.ents i _ hn
  have ecur:=zj0t l hden hL
  have hlen:xs.length=c0*sz:=by rw[← ecur,hL.length,q2]
  have hown:World.ownsB W 0 t' sz (a.eval d) c0 xs:=by
   rw[hv]
   refine⟨hlen,.inr ⟨g',0,c0,cur,rfl,Nat.zero_le _,hc,Nat.le_refl _,by omega,by rw[← ecur] at hlen; rw[Nat.zero_add]; exact hlen.symm.trans (by simp),?_⟩⟩
   rw[List.drop_zero,ecur,← hlen,List.take_length]
  obtain⟨v',W',hr,h5,h6,h7⟩:=run c0 m xs news hown hs hb1 hb2
  obtain⟨A,c,hv',hob,_⟩:=own_of (H:=s.H) h5
  obtain⟨_,_,hv2,_,hent⟩:=own_of (H:=setn s.H i (.gone g')++[.own t' 0 sz A (c0+m) c (xs++news)]) h5
  rw[hv'] at hv2; injection hv2 with q1 q4 q5; subst q1; subst q5
  have hob0:(a.eval d).ownBlock=some g':=by rw[hv]; rfl
  have hg1:=HExt.goneAt hn
  have hheap1:HeapOk E (setn s.H i (.gone g')) W:=rep.heap.set hn hg1 (fun g hg=>by simp[SO.fp] at hg) (fun _ _ _=>rfl) (Nat.le_refl _) rfl rfl rfl trivial
  have hx2:HExt (setn s.H i (.gone g')) (setn s.H i (.gone g')++[.own t' 0 sz A (c0+m) c (xs++news)]):=HExt.push _ _
  have hlen2:(setn s.H i (.gone g')).length=s.H.length:=by rw[zj0k,List.length_set]
  refine⟨v',W',_,_,.inl hr,hk A c,?_,⟨fun j g hj=>hx2.blk j g (hg1.blk j g hj),fun j t ver sz A n c xs hj=>?_⟩,?_⟩
  ·simp only[Is]
   exact⟨t',0,sz,A,c0+m,c,xs++news,by rw[nth_eq,← hlen2]; simp,Nat.le_refl _,⟨_,_,_,hv'⟩,fun _=>hv'⟩
  ·obtain⟨t1,v1,s1,A1,n1,c1,x1,e1,l1,r1⟩:=hg1.own j t ver sz A n c xs hj
   obtain⟨t2,v2,s2,A2,n2,c2,x2,e2,l2,r2⟩:=hx2.own j _ _ _ _ _ _ _ e1
   refine⟨t2,v2,s2,A2,n2,c2,x2,e2,by omega,fun e=>?_⟩
   obtain⟨b1,b2,b3⟩:=r1 (by omega)
   obtain⟨d1,d2,d3⟩:=r2 (by omega)
   exact⟨d1.trans b1,d2.trans b2,d3.trans b3⟩
  ·refine hheap1.pushG (row:=some g') h6.size h6.os h6.tape h6.output (fun j hj hne=>h6.block j hj (by rw[hob0]; exact hne)) (fun g e=>?_) (fun g hg=>?_) (hent 0)
   ·injection e with e; subst e
    refine⟨(rep.heap.fresh i _ g' hn rfl).2,fun j e' hj hfp=>?_⟩
    by_cases hij:i=j
    ·subst hij; rw[zj0i _ (nth_lt hn)] at hj; injection hj with hj; subst hj; cases hfp
    ·rw[zj0f _ hij] at hj
     exact rep.heap.dist i j _ e' g' hij hn hj rfl hfp
   ·have hlt:=lt_of g hg (hent 0)
    refine⟨?_,hlt⟩
    rw[hob,hob0] at h7
    simp only[SO.fp] at hg
    rw[hg] at h7
    rcases h7 with h7 | h7
    ·exact .inl h7.symm
    ·injection h7 with h7; exact .inr (by omega)
 ·exact h.elim
end
section
variable {E:Env} {P:Program} {s:SS} {K:SV→List SO→Prop} {o:Oper} {a:Act} {W:World}
theorem s_cat {t t':TypeId} {x y:Operand} (ho:o.op=.binOp .add t x y t') (rep:Rep E s a W) (h:xk E s K (.cat x y)):ResP P s K o a:=by
 simp only[xk] at h
 split at h
 case h_2=>exact h.elim
 rename_i _ _ b c hx hy
 have ex:=ev_val rep hx; have ey:=ev_val rep hy
 refine ResP.mk (v:=.string (b++c)) ?_ h.2 (by simp[Is])
 have:¬ ((b.size+c.size:Nat):Int) > IntKind.i64.max:=by
  have:IntKind.i64.max=9223372036854775807:=by rfl
  omega
 intro W2
 simp only[execOp,ho,ex,ey,eqGuard,binOp,Op.stringOp,if_neg this,Sem.run_bind,Sem.run_pure,Result.andThen_ok,Bool.not_eq_true',Bool.false_eq_true,if_false,if_true,Bool.not_false]
theorem zj5r (rep:Rep E s a W) {isS:Bool} {n c:Nat} {lo hi:Option Operand} {l h:Int} (hl:lowOf s.F lo=some l) (hh:highOf s.F n hi=some h) (h0:0≤l) (h1:l≤h) (h2:capOk h c hi) (W2:World) :
  (Instr.sliceBounds isS n c (lo.map a.eval) (hi.map a.eval) none).run P W2=.ok (l.toNat,h.toNat,c) W2:=by
 have eh:(h.toNat:Int)=h:=Int.toNat_of_nonneg (by omega)
 have low:∀ lo' k,lo=some lo'→ev s.F lo'=.val (.int k l)→a.eval lo'=.int k l:=fun lo' k _ e=>ev_int rep e
 cases lo with
 | none =>
  simp only[lowOf] at hl; injection hl with hl; subst hl
  cases hi with
  | none =>
   simp only[highOf] at hh; injection hh with hh; subst hh
   simp[Instr.sliceBounds]
  | some hi =>
   simp only[highOf] at hh
   split at hh
   case h_2=>cases hh
   rename_i k q e; injection hh with hh; subst hh
   have e:=ev_int rep e
   simp[Instr.sliceBounds,e,run_sliceBound (P:=P) W2 k q c _ (by omega) h2]
 | some lo =>
  simp only[lowOf] at hl
  split at hl
  case h_2=>cases hl
  rename_i k q e; injection hl with hl; subst hl
  have e:=ev_int rep e
  cases hi with
  | none =>
   simp only[highOf] at hh; injection hh with hh; subst hh
   simp[Instr.sliceBounds,e,run_sliceBound (P:=P) W2 k q n _ (by omega) (by omega)]
  | some hi =>
   simp only[highOf] at hh
   split at hh
   case h_2=>cases hh
   rename_i k2 q2 e2; injection hh with hh; subst hh
   have e2:=ev_int rep e2
   simp[Instr.sliceBounds,e,e2,run_sliceBound (P:=P) W2 k2 q2 c _ (by omega) h2,run_sliceBound (P:=P) W2 k q q2.toNat _ (by omega) (by omega)]
theorem lowA_eq {F:List (Nat × SV)} {A:Option Addr} {c sz:Nat} {l:Int} {lo:Option Operand} (hl:lowOf F lo=some l):lowA A c l sz lo=if c=l.toNat then A else A.map (·.add (l.toNat*sz)):=by
 cases lo with
 | some _=>rfl
 | none =>
  simp only[lowOf] at hl; injection hl with hl; subst hl
  have:A.map (·.add 0)=A:=by cases A <;> simp[Addr.add]
  simp[lowA,this]
theorem lowO_eq {F:List (Nat × SV)} {off c sz:Nat} {l:Int} {lo:Option Operand} (hl:lowOf F lo=some l):lowO off c l sz lo=if c=l.toNat then off else off+l.toNat*sz:=by
 cases lo with
 | some _=>rfl
 | none =>
  simp only[lowOf] at hl; injection hl with hl; subst hl
  simp[lowO]
theorem s_sub {t e:TypeId} {sz:Nat} {x:Operand} {lo hi:Option Operand} (ht:P.underlying t=some (.slice e)) (hz:szT P e=some sz) (ho:o.op=.slice t x lo hi none) (rep:Rep E s a W) (h:xk E s K (.sub sz x lo hi)):ResP P s K o a:=by
 have key:∀ A n c l q,a.eval x=.slice A n c→lowOf s.F lo=some l→highOf s.F n hi=some q→0≤l→l≤q→capOk q c hi →
   ∀ W2:World,(execOp a.eval o).run P W2=.ok (.value (.slice (lowA A c l sz lo) (q.toNat - l.toNat) (c - l.toNat))) W2:=by
  intro A n c l q hx hl hq h0 h1 h2 W2
  rw[lowA_eq hl]
  simp[execOp,ho,Instr.sliceAt,run_underlying ht,Instr.slice,hx,zj5r rep hl hq h0 h1 h2 W2,zj0d hz]
 have hx:=rep.ev x
 simp only[xk] at h
 split at h
 ·rename_i A n c e1
  rw[e1] at hx; simp only[Is] at hx
  split at h
  case h_2=>exact h.elim
  rename_i l q hl hq
  exact ResP.mk (key _ _ _ _ _ hx hl hq h.1.1 h.1.2.1 h.1.2.2) h.2 (by simp[Is])
 ·rename_i i off n c e1
  rw[e1] at hx; simp only[Is] at hx
  obtain⟨g,hg,hv⟩:=hx
  split at h
  case h_2=>exact h.elim
  rename_i l q hl hq
  refine ResP.mk (key _ _ _ _ _ hv hl hq h.1.1 h.1.2.1 h.1.2.2) h.2 ?_
  simp only[Is]
  refine⟨g,hg,?_⟩
  rw[lowA_eq hl,lowO_eq hl]
  split
  ·rfl
  ·simp[add_lit]
 ·rename_i i ver e1
  rw[e1] at hx; simp only[Is] at hx
  obtain⟨t0,ver',sz',A,n,c,xs,hn,_,_,hv⟩:=hx
  obtain⟨t1,sz1,A1,n1,c1,xs1,he,h⟩:=zj1q h
  rw[hn] at he; injection he with he; injection he with e1 e2 e3 e4 e5 e6 e7
  subst e1; subst e2; subst e3; subst e4; subst e5; subst e6; subst e7
  split at h
  case h_2=>exact h.elim
  rename_i l q hl hq
  have hnc:n≤c:=by
   rcases (rep.heap.ents i _ hn).2 with⟨_,h1,h2⟩ | ⟨_,_,_,_,h1,_⟩ <;> omega
  refine ResP.mk (key _ _ _ _ _ (hv rfl) hl hq h.1.1 h.1.2.1 ?_) h.2 (by simp[Is])
  have:=h.1.2.2
  cases hi with
  | none=>trivial
  | some _=>simp only[capOk] at *; omega
 ·exact h.elim
theorem s_subT {t:TypeId} {x:Operand} {lo hi:Option Operand} (ht:P.underlying t=some .string) (ho:o.op=.slice t x lo hi none) (rep:Rep E s a W) (h:xk E s K (.subT x lo hi)):ResP P s K o a:=by
 simp only[xk] at h
 split at h
 case h_2=>exact h.elim
 rename_i b e1
 have hx:=ev_val rep e1
 split at h
 case h_2=>exact h.elim
 rename_i l q hl hq
 refine ResP.mk (v:=.string (b.extract l.toNat q.toNat)) (fun W2=>?_) h.2 (by simp[Is])
 have hc:capOk q b.size hi:=by cases hi with
  | none=>trivial
  | some _=>exact h.1.2.2
 simp[execOp,ho,Instr.sliceAt,run_underlying ht,Instr.slice,hx,zj5r rep hl hq h.1.1 h.1.2.1 hc W2]
theorem s_ixT {t:TypeId} {x i:Operand} (ht:P.underlying t=some .string) (ho:o.op=.index t x i) (rep:Rep E s a W) (h:xk E s K (.ixT x i)):ResP P s K o a:=by
 simp only[xk] at h
 split at h
 case h_2=>exact h.elim
 rename_i _ _ b k j e1 e2
 have hx:=ev_val rep e1
 have hi:=ev_int rep e2
 obtain⟨h0,u,hu,hk⟩:=h
 refine ResP.mk (v:=.int .u8 u.toNat) (fun W2=>?_) hk (by simp[Is])
 simp[execOp,ho,Instr.index,asIntOf,run_underlying ht,hx,hi,h0,hu]
theorem s_ixA {t e:TypeId} {n m:Nat} {x i:Operand} (ht:P.underlying t=some (.array n e)) (hz:szT P e=some m) (hu:(P.underlying e).isSome=true) (ho:o.op=.index t x i) (rep:Rep E s a W) (h:xk E s K (.ixA n m (isAggT P e) x i)):ResP P s K o a:=by
 have hx:=rep.ev x
 simp only[xk] at h
 split at h
 case h_2=>exact h.elim
 rename_i l k j e1 e2
 rw[e1] at hx; simp only[Is] at hx
 obtain⟨us,hL,hv⟩:=hx
 have hi:=ev_int rep e2
 obtain⟨⟨h0,h1⟩,vs,htk,h⟩:=h
 obtain⟨hL',hlen,hfit⟩:=hL.takeDrop htk
 rcases zj6v h with⟨hg,hk⟩ | ⟨hg,v,rfl,hk⟩
 ·refine ResP.mk (v:=.agg ((us.drop (j.toNat*m)).take m).toArray) ?_ hk (by simp only[Is]; exact⟨_,hL',rfl⟩)
  simp[execOp,ho,Instr.index,asIntOf,run_underlying ht,hv,hi,h0,h1,part,zj1c P _ hu,hg,zj0d hz,List.extract_toArray]
 ·simp only[IsL] at hL'
  obtain⟨u,r,hiu,rfl,he⟩:=hL'
  have hn:m=1:=by simpa using hlen.symm
  subst hn
  have hu':us[j.toNat]? = some u:=by
   have:=congrArg (·[0]?) he
   simpa using this
  refine ResP.mk (v:=u) ?_ hk hiu
  simp[execOp,ho,Instr.index,asIntOf,run_underlying ht,hv,hi,h0,h1,part,zj1c P _ hu,hg,hu',zj0d hz]
end
end Go.Sx
