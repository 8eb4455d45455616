/- The engine: other words for the same memory. -/
import Derived.Test.YtaiajnehnjnadaaGreatDoorSxStill
set_option linter.unusedSimpArgs false
set_option linter.unusedVariables false
set_option linter.unnecessarySimpa false
namespace Go.Sx
theorem zj4w {E:Env} {F:List (Nat × SV)} {H:List SO} {a:Act} {W:World} (d:Nat) {x y:SV} (rep:Rep E { F:=F,H:=H } a W) (hl:lk F d=x) (h:∀ v,Is H x v→Is H y v):Rep E { F:=(d,y) :: F,H:=H } a W:=by
 refine⟨rep.size,fun d'=>?_,rep.defers,rep.heap⟩
 have h1:=rep.frame d'
 cases e:d == d' with
 | true =>
  have:=eq_of_beq e
  subst this
  simp only[lk,e]
  simp only[hl] at h1
  exact h _ h1
 | false =>
  simp only[lk,e]
  exact h1
def fps (H:List SO):List Nat:=H.filterMap SO.fp
theorem fps_mem {H:List SO} {g:Nat}:g ∈ fps H ↔ ∃ i e,nth H i=some e∧e.fp=some g:=by
 unfold fps
 rw[List.mem_filterMap]
 constructor
 ·rintro ⟨e,he,hg⟩
  obtain⟨i,hi⟩:=List.getElem?_of_mem he
  exact⟨i,e,by rw[nth_eq]; exact hi,hg⟩
 ·rintro ⟨i,e,hi,hg⟩
  exact⟨e,List.mem_of_getElem? (by rw[← nth_eq]; exact hi),hg⟩
structure Over (E E':Env):Prop where
 keep:Keep E.old E.b E'.b
 sub:∀ j,E.old j→E'.old j
 floor:E.N≤E'.N
theorem Over.refl (E:Env):Over E E:=⟨Keep.refl _ _,fun _ h=>h,Nat.le_refl _⟩
theorem Over.trans {A B C:Env} (h:Over A B) (k:Over B C):Over A C:=⟨h.keep.trans (k.keep.mono h.sub),fun j hj=>k.sub j (h.sub j hj),Nat.le_trans h.floor k.floor⟩
theorem Over.env {E A B:Env} (hb:B.b=A.b) (hN:B.N=A.N) (hs:B.stolen=A.stolen) (h:Over E A):Over E B:=by
 obtain⟨b,N,st,nt,mk⟩:=A
 obtain⟨b',N',st',nt',mk'⟩:=B
 simp only at hb hN hs
 subst hb; subst hN; subst hs
 exact⟨h.keep,h.sub,h.floor⟩
theorem Over.heap {E E':Env} {H:List SO} {W:World} (h:Over E E') (hh:HeapOk E' H W):HeapOk E H W where
 keep:=h.keep.trans (hh.keep.mono h.sub)
 floor:=Nat.le_trans h.floor hh.floor
 ents:=hh.ents
 fresh i e g hi hg:=⟨(hh.fresh i e g hi hg).1,fun ho=>(hh.fresh i e g hi hg).2 (h.sub g ho)⟩
 dist:=hh.dist
theorem Over.cell {E E':Env} (h:Over E E') {A:Option Addr} {j:Nat} {v:Value} (hc:CellAt E A j v):CellAt E' A j v:=by
 obtain⟨a,rfl,ho,hv⟩:=hc
 refine⟨a,rfl,h.sub _ ho,?_⟩
 rw[← hv]
 unfold World.cell?
 rw[zj1p,h.keep.block _ ho]
theorem HeapOk.rebase {E:Env} {H:List SO} {W:World} (h:HeapOk E H W) (nt:Nat) (mk:List Nat):HeapOk ⟨W,W.heap.size,fps H,nt,mk⟩ H W∧Over E ⟨W,W.heap.size,fps H,nt,mk⟩:=by
 refine⟨⟨Keep.refl _ _,Nat.le_refl _,h.ents,fun i e g hi hg=>⟨(h.fresh i e g hi hg).1,fun ho=>ho.2 (fps_mem.2 ⟨i,e,hi,hg⟩)⟩,h.dist⟩,⟨h.keep,fun j hj=>⟨Nat.lt_of_lt_of_le hj.1 h.floor,fun hm=>?_⟩,h.floor⟩⟩
 obtain⟨i,e,hi,hg⟩:=fps_mem.1 hm
 exact (h.fresh i e j hi hg).2 hj
theorem Rep.rebase {E:Env} {s:SS} {a:Act} {W:World} (rep:Rep E s a W):Rep ⟨W,W.heap.size,fps s.H,E.nt,E.marks⟩ s a W :=
 ⟨rep.size,rep.frame,rep.defers,(rep.heap.rebase _ _).1⟩
theorem HExt.app (H r:List SO):HExt H (H++r) where
 blk i g h:=by
  rw[blk_eq] at *
  cases hn:nth H i with
  | none=>simp[hn] at h
  | some e'=>rw[zj06 hn]; rw[hn] at h; exact h
 own i t ver sz A n c xs h:=⟨_,_,_,_,_,_,_,zj06 h,Nat.le_refl _,fun _=>⟨rfl,rfl,rfl⟩⟩
theorem nth_app {H r:List SO} {i:Nat} {e:SO} (h:nth (H++r) i=some e):(i < H.length∧nth H i=some e)∨(H.length≤i∧nth r (i - H.length)=some e):=by
 rw[nth_eq] at h
 by_cases hi:i < H.length
 ·rw[List.getElem?_append_left hi] at h
  exact .inl ⟨hi,by rw[nth_eq]; exact h⟩
 ·rw[List.getElem?_append_right (by omega)] at h
  exact .inr ⟨by omega,by rw[nth_eq]; exact h⟩
theorem zj3i {H r:List SO} {i:Nat} {e:SO} (hi:H.length≤i) (h:nth r (i - H.length)=some e):nth (H++r) i=some e:=by
 rw[nth_eq,List.getElem?_append_right hi,← nth_eq]; exact h
theorem HExt.front {H H':List SO} (r:List SO) (x:HExt H H') (hl:H'.length=H.length):HExt (H++r) (H'++r) where
 blk i g h:=by
  rw[blk_eq] at h ⊢
  cases hn:nth (H++r) i with
  | none=>simp[hn] at h
  | some e =>
   rw[hn] at h
   rcases nth_app hn with⟨h1,h2⟩ | ⟨h1,h2⟩
   ·have:=x.blk i g (by rw[blk_eq,h2]; exact h)
    rw[blk_eq] at this
    cases hm:nth H' i with
    | none=>simp[hm] at this
    | some e'=>rw[zj06 hm]; rw[hm] at this; exact this
   ·rw[zj3i (by omega) (by rw[hl]; exact h2)]; exact h
 own i t ver sz A n c xs h:=by
  rcases nth_app h with⟨h1,h2⟩ | ⟨h1,h2⟩
  ·obtain⟨t',v',s',A',n',c',x',e,r1,r2⟩:=x.own i _ _ _ _ _ _ _ h2
   exact⟨t',v',s',A',n',c',x',zj06 e,r1,r2⟩
  ·exact⟨_,_,_,_,_,_,_,zj3i (by omega) (by rw[hl]; exact h2),Nat.le_refl _,fun _=>⟨rfl,rfl,rfl⟩⟩
theorem HeapOk.lend {E:Env} {H1 r:List SO} {W:World} (h:HeapOk E (H1++r) W) (hs:∀ e ∈ H1,scpO H1.length e=true) (nt:Nat) (mk:List Nat):HeapOk ⟨W,W.heap.size,fps H1,nt,mk⟩ H1 W :=
 ((h.pre hs).rebase nt mk).1
def RowE (E:Env) (A:Option Addr) (xs:List Value):Prop:=∀ j u,xs[j]? = some u→CellAt E A j u
theorem RowE.cell {E:Env} {A:Option Addr} {xs:List Value} (h:RowE E A xs) {j:Nat} {u:Value} (hj:xs[j]? = some u):CellAt E A j u:=h j u hj
theorem RowE.over {E E':Env} {A:Option Addr} {xs:List Value} (h:RowE E A xs) (o:Over E E'):RowE E' A xs:=fun j u hj=>o.cell (h j u hj)
theorem RowE.env {E E':Env} (hb:E'.b=E.b) (hN:E'.N=E.N) (hs:E'.stolen=E.stolen) {A:Option Addr} {xs:List Value} (h:RowE E A xs):RowE E' A xs:=h.over ((Over.refl E).env hb hN hs)
theorem RowE.isSome {E:Env} {A:Option Addr} {xs:List Value} (h:RowE E A xs) {j:Nat} (hj:j < xs.length):A.isSome=true:=by
 obtain⟨a,rfl,_⟩:=h j xs[j] (List.getElem?_eq_getElem hj); rfl
theorem RowE.at {E:Env} {A:Option Addr} {xs:List Value} {H:List SO} {W:World} (h:RowE E A xs) (hW:HeapOk E H W):RowAt W A xs:=by
 intro j u hj
 obtain⟨a,rfl,ho,hv⟩:=h j u hj
 refine⟨a,rfl,Nat.lt_of_lt_of_le ho.1 hW.floor,?_⟩
 rw[← hv]
 unfold World.cell?
 rw[zj1p,hW.keep.block _ ho]
theorem HeapOk.others {E E0:Env} {H:List SO} {W W':World} {Ds:List Nat} (h0:HeapOk E0 H W) (h:HeapOk E H W) (hk:Keep (fun j=>j ∉ Ds) W W') (hD:∀ D ∈ Ds,E.old D∧¬ E0.old D):HeapOk E0 H W' where
 keep:=h0.keep.trans (hk.mono fun j hj hm=>(hD j hm).2 hj)
 floor:=Nat.le_trans h0.floor hk.size
 ents i e hi:=(h0.ents i e hi).mono (HExt.refl _) fun g hg=>hk.block g fun hm=>(h.fresh i e g hi hg).2 (hD g hm).1
 fresh i e g hi hg:=⟨Nat.lt_of_lt_of_le (h0.fresh i e g hi hg).1 hk.size,(h0.fresh i e g hi hg).2⟩
 dist:=h0.dist
open Go
set_option maxRecDepth 100000
set_option linter.unusedVariables false
end Go.Sx
namespace Go.Sx
def posOf:List Nat→Nat→Option Nat
 | [],_=>none
 | j :: σ,i=>match j == i with
  | true=>some 0
  | false=>(match posOf σ i with | some k=>some (k+1) | none=>none)
mutual
def renV (σ:List Nat):SV→SV
 | .ptr i off=>(match posOf σ i with | some k=>.ptr k off | none=>.unk)
 | .slc i off n c=>(match posOf σ i with | some k=>.slc k off n c | none=>.unk)
 | .own i ver=>(match posOf σ i with | some k=>.own k ver | none=>.unk)
 | .oad i ver off=>(match posOf σ i with | some k=>.oad k ver off | none=>.unk)
 | .mp i=>(match posOf σ i with | some k=>.mp k | none=>.unk)
 | .agg l=>.agg (renVL σ l)
 | .tup l=>.tup (renVL σ l)
 | .fn f a b=>.fn f (renVL σ a) (renVL σ b)
 | v=>v
def renVL (σ:List Nat):List SV→List SV
 | []=>[]
 | s :: l=>renV σ s :: renVL σ l
end
def renO (σ:List Nat):SO→SO
 | .cells g t l=>.cells g t (renVL σ l)
 | e=>e
def pickE (σ:List Nat):Option SO→SO
 | some e=>renO σ e
 | none=>.gone 0
def pickH (σ:List Nat) (H:List SO):List Nat→List SO
 | []=>[]
 | j :: τ=>pickE σ (nth H j) :: pickH σ H τ
def renF (σ:List Nat):List (Nat × SV)→List (Nat × SV)
 | []=>[]
 | (d,v) :: l=>(d,renV σ v) :: renF σ l
theorem posOf_get:∀ {σ:List Nat} {i k:Nat},posOf σ i=some k→σ[k]? = some i
 | [],_,_,h=>by cases h
 | j :: σ,i,k,h=>by
  simp only[posOf] at h
  cases hb:j == i with
  | true => rw [hb] at h; injection h with h; subst h; have : j = i := by simpa using hb
            subst this; rfl
  | false =>
   rw[hb] at h
   cases hp:posOf σ i with
   | none=>rw[hp] at h; cases h
   | some m=>rw[hp] at h; injection h with h; subst h; exact (posOf_get (σ:=σ) hp)
theorem zj3j (σ:List Nat) (H:List SO):∀ (τ:List Nat) (k:Nat),nth (pickH σ H τ) k=(τ[k]?).map fun j=>pickE σ (nth H j)
 | [],k=>by simp[pickH,nth]
 | j :: τ,0=>by simp[pickH,nth]
 | j :: τ,k+1=>by simp[pickH,nth,zj3j σ H τ k]
theorem nth_pos {σ:List Nat} {H:List SO} {i k:Nat} {e:SO} (hp:posOf σ i=some k) (he:nth H i=some e):nth (pickH σ H σ) k=some (renO σ e):=by
 rw[zj3j,posOf_get hp]; simp[he,pickE]
theorem blk_renO (σ:List Nat) (e:SO):(renO σ e).blk=e.blk:=by cases e <;> rfl
theorem fp_renO (σ:List Nat) (e:SO):(renO σ e).fp=e.fp:=by cases e <;> rfl
theorem zj4x {σ:List Nat} {H:List SO} {i k g:Nat} (hp:posOf σ i=some k) (h:blk H i=some g):blk (pickH σ H σ) k=some g:=by
 rw[blk_eq] at *
 cases he:nth H i with
 | none=>rw[he] at h; cases h
 | some e=>rw[he] at h; rw[nth_pos hp he]; simp only[Option.bind_some] at *; rw[blk_renO]; exact h
mutual
theorem Is.ren {σ:List Nat} {H:List SO}:∀ (s:SV) {v:Value},Is H s v→Is (pickH σ H σ) (renV σ s) v
 | .unk,_,_=>by simp[renV,Is]
 | .val _,_,h=>by simpa [renV,Is] using h
 | .opq _ _,_,h=>by simpa [renV,Is] using h
 | .bt,_,h=>by simpa [renV,Is] using h
 | .bf,_,h=>by simpa [renV,Is] using h
 | .ptr i off,_,h=>by
  simp only[renV]
  split
  ·rename_i k hk
   simp only[Is] at *; obtain⟨g,hg,hv⟩:=h; exact⟨g,zj4x hk hg,hv⟩
  ·simp[Is]
 | .adr A off,_,h=>by simpa [renV,Is] using h
 | .slc i off n c,_,h=>by
  simp only[renV]
  split
  ·rename_i k hk
   simp only[Is] at *; obtain⟨g,hg,hv⟩:=h; exact⟨g,zj4x hk hg,hv⟩
  ·simp[Is]
 | .own i ver,_,h=>by
  simp only[renV]
  split
  ·rename_i k hk
   simp only[Is] at *
   obtain⟨t,v',sz,A,n,c,xs,he,hle,hsh,hv⟩:=h
   exact⟨t,v',sz,A,n,c,xs,nth_pos hk he,hle,hsh,hv⟩
  ·simp[Is]
 | .oad i ver off,_,h=>by
  simp only[renV]
  split
  ·rename_i k hk
   simp only[Is] at *
   obtain⟨t,v',sz,A,n,c,xs,he,hle,hsh,hv⟩:=h
   exact⟨t,v',sz,A,n,c,xs,nth_pos hk he,hle,hsh,hv⟩
  ·simp[Is]
 | .mp i,_,h=>by
  simp only[renV]
  split
  ·rename_i k hk
   simp only[Is] at *; obtain⟨g,hg,hv⟩:=h; exact⟨g,zj4x hk hg,hv⟩
  ·simp[Is]
 | .agg l,_,h=>by simp only[renV,Is] at *; obtain⟨vs,hl,hv⟩:=h; exact⟨vs,IsL.ren l hl,hv⟩
 | .tup l,_,h=>by simp only[renV,Is] at *; obtain⟨vs,hl,hv⟩:=h; exact⟨vs,IsL.ren l hl,hv⟩
 | .fn f a b,_,h=>by simp only[renV,Is] at *; obtain⟨p,q,hp,hq,hv⟩:=h; exact⟨p,q,IsL.ren a hp,IsL.ren b hq,hv⟩
theorem IsL.ren {σ:List Nat} {H:List SO}:∀ (l:List SV) {vs:List Value},IsL H l vs→IsL (pickH σ H σ) (renVL σ l) vs
 | [],_,h=>by simpa [renVL,IsL] using h
 | s :: l,_,h=>by
  simp only[renVL,IsL] at *; obtain⟨v,r,hv,hr,e⟩:=h
  exact⟨v,r,Is.ren s hv,IsL.ren l hr,e⟩
end
theorem HeapOk.pick {E:Env} {H:List SO} {W:World} (h:HeapOk E H W) (σ:List Nat) (hσ:σ.Nodup):HeapOk E (pickH σ H σ) W:=by
 have key:∀ k e,nth (pickH σ H σ) k=some e→∃ j,σ[k]? = some j∧e=pickE σ (nth H j):=fun k e hk=>by
  rw[zj3j] at hk
  cases hj:σ[k]? with
  | none=>rw[hj] at hk; cases hk
  | some j=>rw[hj] at hk; injection hk with hk; exact⟨j,rfl,hk.symm⟩
 refine⟨h.keep,h.floor,fun k e hk=>?_,fun k e g hk hg=>?_,fun k m e e' g hkm hk hm hg=>?_⟩
 ·obtain⟨j,_,rfl⟩:=key k e hk
  cases hn:nth H j with
  | none=>trivial
  | some e' =>
   have:=h.ents j e' hn
   cases e' with
   | cells g t l=>obtain⟨c,hc,hL⟩:=this; exact⟨c,hc,IsL.ren l hL⟩
   | _=>exact this
 ·obtain⟨j,_,rfl⟩:=key k e hk
  cases hn:nth H j with
  | none=>rw[hn] at hg; simp[pickE,SO.fp] at hg
  | some e' =>
   rw[hn] at hg
   simp only[pickE] at hg
   rw[fp_renO] at hg
   exact h.fresh j e' g hn hg
 ·obtain⟨j,hj,rfl⟩:=key k e hk
  obtain⟨i,hi,rfl⟩:=key m e' hm
  cases hn:nth H j with
  | none=>rw[hn] at hg; simp[pickE,SO.fp] at hg
  | some e1 =>
   cases hn2:nth H i with
   | none=>simp[pickE,SO.fp]
   | some e2 =>
    rw[hn] at hg
    simp only[pickE] at hg ⊢
    rw[fp_renO] at hg ⊢
    refine h.dist j i e1 e2 g (fun e=>hkm ?_) hn hn2 hg
    subst e
    obtain⟨hk1,he1⟩:=List.getElem?_eq_some_iff.1 hj
    obtain⟨hk2,he2⟩:=List.getElem?_eq_some_iff.1 hi
    exact (List.getElem_inj hσ).1 (he1.trans he2.symm)
theorem lk_renF (σ:List Nat):∀ (F:List (Nat × SV)) (d:Nat),lk (renF σ F) d=renV σ (lk F d)
 | [],d=>by simp[renF,lk,renV]
 | (e,v) :: F,d=>by
  simp only[renF,lk]
  cases e == d with
  | true=>rfl
  | false=>exact lk_renF σ F d
theorem Rep.pick {E:Env} {s:SS} {a:Act} {W:World} (rep:Rep E s a W) (σ:List Nat) (hσ:σ.Nodup):Rep E { F:=renF σ s.F,H:=pickH σ s.H σ } a W :=
 ⟨rep.size,fun d=>by
  show Is _ (lk (renF σ s.F) d) _
  rw[lk_renF]; exact Is.ren _ (rep.frame d),rep.defers,rep.heap.pick σ hσ⟩
theorem zj1r {C:Cx} {E:Env} {d:Option Nat} {f:FuncId} {args:List Operand} {l:List XS} {k:List KI} {s:SS} {vs:List Value} (hargs:denL s.H (evL s.F args)=some vs)
  {R:World→Value→World→Prop} (hc:∀ W,HeapOk E s.H W→CallsV C.P f vs W (R W)) (hk:∀ W v W',R W v W'→Fresh W W')
  (next:∀ W v W',HeapOk E s.H W→R W v W'→Over E ⟨W',W'.heap.size,fps s.H,E.nt,E.marks⟩→∃ sv,Is s.H sv v∧G C ⟨W',W'.heap.size,fps s.H,E.nt,E.marks⟩ (.ops l :: k) { F:=putF s.F d sv,H:=s.H }) :
  G C E (.ops ({ dst:=d,guard:=none,i:=.call f args } :: l) :: k) s:=by
 intro a W rep ops ol hol
 obtain⟨q,rest,rfl,ho,hl⟩:=zj0n hol
 obtain⟨op,rfl,hd,hdst,hg,hi⟩:=zj0z ho rfl
 obtain⟨c,hop,hcal,hargs',hok⟩:=cmpI_call hi
 have hn:=zj22 hi (by simp)
 have hw:=zj14 hg a
 show stepS C.r C.P ops _ op _ a W
 unfold stepS
 rw[if_pos hw,zj3a hop hn]
 refine⟨fun _ _=>trivial,?_⟩
 have hnd:∀ c',op.op ≠ .defer c':=by intro c' e; rw[hop] at e; cases e
 have hvs:(c.args.map a.eval)=vs.toArray:=by
  have:=zj0y _ hargs (rep.evL args)
  rw[← hargs'] at this
  rw[← this,← Array.toList_map,Array.toArray_toList]
 have hrun:(execOp a.eval op).run C.P W=.ok (.enter f vs.toArray) W:=by
  simp only[execOp,hop,resolve,hcal,Act.eval,hvs,Deferred.ofValue,Sem.run_bind,Sem.run_pure,Result.andThen_ok,invoke,Array.append_empty,Array.empty_append]
  exact zj0v hok _ W
 rw[Oper.semAt_eq _ _ _ hnd,hrun]
 refine⟨fun h=>by simp[WF,Fence.wide] at h,?_⟩
 refine zj12.2 ?_
 refine Calls.mono (hc W rep.heap) fun e W' he=>?_
 cases e with
 | returned v =>
  have hh:HeapOk E s.H W':=rep.heap.freshK (hk W v W' he)
  obtain⟨sv,h1,h4⟩:=next W v W' rep.heap he (hh.rebase E.nt E.marks).2
  have hdst':d=op.dst:=hdst
  have hr:Rep E { F:=putF s.F d sv,H:=s.H } (a.put op.dst v) W':=by
   rw[← hdst']; exact (rep.ext (HExt.refl _) hh).put (fun m hm=>hd m (by rw[← hdst']; exact hm)) h1
  exact h4 (a.put op.dst v) W' hr.rebase ops rest hl
 | panicked ch=>exact he.elim
 | outgrown=>exact he.elim
theorem ret_rvm {P:Program} {fn:Func} {keep:List Nat} {tab:Nat→XC} {R:Value→World→Prop} {E:Env} {s:SS} {rs:List RV} {vs:List Value} {D:Nat} (i:Nat) (hr:rvOf P fn.results.toList=some rs) (hm:E.marks=[D])
  (hi:nth s.H i=some (.obj D (.deferred (some [])))) (hv:denR (setn s.H i (.obj D (.deferred none))) s.F rs=some vs) (h:∀ W,HeapOk E (setn s.H i (.obj D (.deferred none))) W→R (tupOf vs) W):RetG (cxM P fn keep tab R) E s:=by
 intro a W rep
 have hd:a.defers=[{ target:=.collected D,args:=#[] }]:=by rw[rep.defers,hm]; rfl
 show LeavesInM _ _ _ _ _ _ a.defers .returning W
 rw[hd]
 have hb:W.heap[D]? = some (.deferred (some [])):=rep.heap.ents i _ hi
 refine⟨by simp,.inl ⟨D,_,rfl,run_takeDeferred hb,?_⟩⟩
 obtain⟨x,hh⟩:=rep.heap.putObj hi (.deferred none)
 show LeavesIn _ _ _ _ _ _ [] .returning _
 have rep':Rep E { F:=s.F,H:=setn s.H i (.obj D (.deferred none)) } a _:=rep.ext x hh
 exact⟨_,zj2f rep' hr hv,h _ hh⟩
theorem ownsB_low {w:World} {N M:Nat} {t:TypeId} {sz n:Nat} {v:Value} {xs:List Value} (h:World.ownsB w N t sz v n xs) (hm:M≤N):World.ownsB w M t sz v n xs:=by
 obtain⟨hl,⟨A,h1,h2,h3⟩ | ⟨g,b,cap,cur,h1,h2,h3⟩⟩:=h
 ·exact⟨hl,.inl ⟨A,h1,h2,fun a ha=>⟨Nat.le_trans hm (h3 a ha).1,(h3 a ha).2⟩⟩⟩
 ·exact⟨hl,.inr ⟨g,b,cap,cur,h1,Nat.le_trans hm h2,h3⟩⟩
theorem ownsB_keep {w w':World} {N:Nat} {t:TypeId} {sz n:Nat} {v:Value} {xs:List Value} (h:World.ownsB w N t sz v n xs) (k:Fresh w w'):World.ownsB w' N t sz v n xs:=by
 obtain⟨hl,⟨A,h1,h2,h3⟩ | ⟨g,b,cap,cur,h1,h2,h3,h4⟩⟩:=h
 ·refine⟨hl,.inl ⟨A,h1,h2,fun a ha=>⟨(h3 a ha).1,?_⟩⟩⟩
  obtain⟨o,ho⟩:=(h3 a ha).2
  exact⟨o,by rw[k.block _ (Array.getElem?_eq_some_iff.1 ho).1]; exact ho⟩
 ·exact⟨hl,.inr ⟨g,b,cap,cur,h1,h2,by rw[k.block _ (Array.getElem?_eq_some_iff.1 h3).1]; exact h3,h4⟩⟩
theorem Fresh.tr {a b c:World} (h:Fresh a b) (k:Fresh b c):Fresh a c:=Keep.trans h (Keep.mono k fun j hj=>Nat.lt_of_lt_of_le hj h.size)
theorem ownsB_max {w:World} {N:Nat} {t:TypeId} {sz n:Nat} {v:Value} {xs:List Value} (ho:World.ownsB w N t sz v n xs):n≤maxLen:=by
 obtain⟨_,⟨_,_,h0,_⟩ | ⟨g,b,cap,cur,_,_,_,h1,h2,_⟩⟩:=ho
 ·rw[h0]; exact Nat.zero_le _
 ·exact Nat.le_trans h1 h2
theorem HeapOk.off {E:Env} {H1 r:List SO} {W:World} (h:HeapOk E (H1++r) W) {i:Nat} {e:SO} {g:Nat} (hi:nth r i=some e) (hg:e.fp=some g):g < W.heap.size∧g ∉ fps H1∧¬ E.old g:=by
 have hi':nth (H1++r) (H1.length+i)=some e:=zj3i (by omega) (by rw[Nat.add_sub_cancel_left]; exact hi)
 refine⟨(h.fresh _ e g hi' hg).1,fun hm=>?_,(h.fresh _ e g hi' hg).2⟩
 obtain⟨j,e',hj,hg'⟩:=fps_mem.1 hm
 exact h.dist j (H1.length+i) e' e g (by have:=nth_lt hj; omega) (zj06 hj) hi' hg' hg
theorem Rep.cut {E:Env} {F:List (Nat × SV)} {H1 r:List SO} {a:Act} {W:World} (rep:Rep E { F:=F,H:=H1++r } a W) (hs:H1.all (scpO H1.length)=true) (hF:∀ d,Is H1 (lk F d) (a.tmps.getD d undef)):Rep ⟨W,W.heap.size,fps H1,E.nt,E.marks⟩ { F:=F,H:=H1 } a W∧Over E ⟨W,W.heap.size,fps H1,E.nt,E.marks⟩:=by
 have hh:HeapOk E H1 W:=rep.heap.pre fun e he=>List.all_eq_true.1 hs e he
 have:=hh.rebase E.nt E.marks
 exact⟨⟨rep.size,hF,rep.defers,this.1⟩,this.2⟩
structure MarksOk (E0 E:Env):Prop where
 nodup:E.marks.Nodup
 ok:∀ D ∈ E.marks,E.b.heap[D]? = some (.deferred (some []))∧E.old D∧¬ E0.old D
theorem MarksOk.nil (E0 E:Env) (h:E.marks=[]):MarksOk E0 E:=⟨by rw[h]; simp,fun D hD=>by rw[h] at hD; simp at hD⟩
theorem MarksOk.over {E0 E E':Env} (h:MarksOk E0 E) (o:Over E E') (hm:E'.marks=E.marks):MarksOk E0 E' :=
 ⟨by rw[hm]; exact h.nodup,fun D hD=>by
  rw[hm] at hD
  obtain⟨h1,h2,h3⟩:=h.ok D hD
  exact⟨by rw[o.keep.block D h2]; exact h1,o.sub D h2,h3⟩⟩
theorem MarksOk.more {E0 E E':Env} (h:MarksOk E0 E) (o:Over E E') {D:Nat} (hm:E'.marks=D :: E.marks) (hD:E'.b.heap[D]? = some (.deferred (some []))) (h1:E'.old D) (h2:¬ E.old D) (ho:Over E0 E):MarksOk E0 E':=by
 refine⟨?_,fun D' hD'=>?_⟩
 ·rw[hm]
  exact List.nodup_cons.2 ⟨fun hin=>h2 (h.ok D hin).2.1,h.nodup⟩
 ·rw[hm] at hD'
  rcases List.mem_cons.1 hD' with e | e
  ·subst e; exact⟨hD,h1,fun k=>h2 (ho.sub _ k)⟩
  ·obtain⟨k1,k2,k3⟩:=h.ok D' e
   exact⟨by rw[o.keep.block D' k2]; exact k1,o.sub D' k2,k3⟩
theorem MarksOk.heap {E0 E:Env} (hm:MarksOk E0 E) (o:Over E0 E) {H:List SO} {W W':World} (hW:HeapOk E H W) (hk:Keep (fun j=>j ∉ E.marks) W W'):HeapOk E0 H W' :=
 HeapOk.others (o.heap hW) hW hk fun D hD=>⟨(hm.ok D hD).2.1,(hm.ok D hD).2.2⟩
end Go.Sx
