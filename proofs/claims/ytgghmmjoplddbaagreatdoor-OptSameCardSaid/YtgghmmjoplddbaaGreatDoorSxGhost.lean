/- The engine: other words for the same memory. -/
import Derived.Test.YtgghmmjoplddbaaGreatDoorSxStill
set_option linter.unusedSimpArgs false
set_option linter.unusedVariables false
set_option linter.unnecessarySimpa false
namespace Go.Sx
theorem Rep.ownC {E:Env} {s:SS} {a:Act} {W:World} (rep:Rep E s a W) (d:Nat) {i n g sz:Nat} {t:TypeId} {l:List SV} {xs:List Value} (hF:lk s.F d=.slc i 0 n n) (hi:nth s.H i=some (.cells g t l)) (hx:denL s.H l=some xs) (hl:xs.length=n*sz) (hn:n≤maxLen) :
  Rep E { F:=(d,.own s.H.length 0) :: s.F,H:=setn s.H i (.gone g)++[.own t 0 sz (some ⟨g,0,none⟩) n n xs] } a W:=by
 obtain⟨cur,hc,hL⟩:=rep.heap.ents i _ hi
 have ecur:=zj0t l hx hL
 have hc:W.heap[g]? = some (.cells cur t (0,0)):=hc
 have hg1:=HExt.goneAt hi
 have hheap1:HeapOk E (setn s.H i (.gone g)) W:=rep.heap.set hi hg1 (fun g hg=>by simp[SO.fp] at hg) (fun _ _ _=>rfl) (Nat.le_refl _) rfl rfl rfl trivial
 have hx2:=HExt.push (setn s.H i (.gone g)) (.own t 0 sz (some ⟨g,0,none⟩) n n xs)
 have hlen2:(setn s.H i (.gone g)).length=s.H.length:=by rw[zj0k,List.length_set]
 have hh:HeapOk E (setn s.H i (.gone g)++[.own t 0 sz (some ⟨g,0,none⟩) n n xs]) W:=by
  refine hheap1.pushG (row:=some g) (Nat.le_refl _) rfl rfl rfl (fun _ _ _=>rfl) (fun g' e=>?_) (fun g' hg=>?_) ⟨hl,.inr ⟨g,0,cur,rfl,hc,Nat.le_refl _,hn,by rw[← hl,← ecur]; simp,by rw[← hl,List.drop_zero,ecur,List.take_length]⟩⟩
  ·injection e with e; subst e
   refine⟨(rep.heap.fresh i _ g hi rfl).2,fun j e' hj hfp=>?_⟩
   by_cases hij:i=j
   ·subst hij; rw[zj0i _ (nth_lt hi)] at hj; injection hj with hj; subst hj; cases hfp
   ·rw[zj0f _ hij] at hj
    exact rep.heap.dist i j _ e' g hij hi hj rfl hfp
  ·simp only[SO.fp,Option.map_some,Option.some.injEq] at hg; subst hg
   exact⟨.inl rfl,(Array.getElem?_eq_some_iff.1 hc).1⟩
 refine Rep.tell (rep.ext (hg1.trans' hx2) hh) ?_
 have hf:=rep.frame d
 rw[hF] at hf
 simp only[Is] at hf ⊢
 obtain⟨g',hb,hv⟩:=hf
 rw[blk_eq,hi] at hb
 simp only[Option.bind_some,SO.blk,Option.some.injEq] at hb; subst hb
 exact⟨t,0,sz,some ⟨g,0,none⟩,n,n,xs,by rw[nth_eq,← hlen2]; simp,Nat.le_refl _,⟨_,_,_,hv⟩,fun _=>hv⟩
theorem Rep.ownH {E:Env} {s:SS} {a:Act} {W:World} (rep:Rep E s a W) {i g:Nat} (n sz:Nat) {t:TypeId} {l:List SV} {xs:List Value} (hi:nth s.H i=some (.cells g t l)) (hx:denL s.H l=some xs) (hl:xs.length=n*sz) (hn:n≤maxLen) :
  Rep E { F:=s.F,H:=setn s.H i (.gone g)++[.own t 0 sz (some ⟨g,0,none⟩) n n xs] } a W:=by
 have rep2:Rep E { F:=(0,.unk) :: s.F,H:=s.H } a W:=by
  refine⟨rep.size,fun d=>?_,rep.defers,rep.heap⟩
  cases h:0 == d with
  | true=>simp[lk,h,Is]
  | false=>simp only[lk,h]; exact rep.frame d
 obtain⟨cur,hc,hL⟩:=rep.heap.ents i _ hi
 have ecur:=zj0t l hx hL
 have hc:W.heap[g]? = some (.cells cur t (0,0)):=hc
 have hg1:=HExt.goneAt hi
 have hheap1:HeapOk E (setn s.H i (.gone g)) W:=rep.heap.set hi hg1 (fun g hg=>by simp[SO.fp] at hg) (fun _ _ _=>rfl) (Nat.le_refl _) rfl rfl rfl trivial
 have hx2:=HExt.push (setn s.H i (.gone g)) (.own t 0 sz (some ⟨g,0,none⟩) n n xs)
 have hh:HeapOk E (setn s.H i (.gone g)++[.own t 0 sz (some ⟨g,0,none⟩) n n xs]) W:=by
  refine hheap1.pushG (row:=some g) (Nat.le_refl _) rfl rfl rfl (fun _ _ _=>rfl) (fun g' e=>?_) (fun g' hg=>?_) ⟨hl,.inr ⟨g,0,cur,rfl,hc,Nat.le_refl _,hn,by rw[← hl,← ecur]; simp,by rw[← hl,List.drop_zero,ecur,List.take_length]⟩⟩
  ·injection e with e; subst e
   refine⟨(rep.heap.fresh i _ g hi rfl).2,fun j e' hj hfp=>?_⟩
   by_cases hij:i=j
   ·subst hij; rw[zj0i _ (nth_lt hi)] at hj; injection hj with hj; subst hj; cases hfp
   ·rw[zj0f _ hij] at hj
    exact rep.heap.dist i j _ e' g hij hi hj rfl hfp
  ·simp only[SO.fp,Option.map_some,Option.some.injEq] at hg; subst hg
   exact⟨.inl rfl,(Array.getElem?_eq_some_iff.1 hc).1⟩
 exact rep.ext (hg1.trans' hx2) hh
theorem Rep.winH {E:Env} {s:SS} {a:Act} {W:World} (rep:Rep E s a W) {i ver n c sz:Nat} {t:TypeId} {A:Option Addr} {xs:List Value} (l m:Nat) (hi:nth s.H i=some (.own t ver sz A n c xs)) (hl:l+m≤n) :
  Rep E { F:=s.F,H:=setn s.H i (.own t (ver+1) sz (subA A c l sz) m (c - l) ((xs.drop (l*sz)).take (m*sz))) } a W:=by
 have x:HExt s.H (setn s.H i (.own t (ver+1) sz (subA A c l sz) m (c - l) ((xs.drop (l*sz)).take (m*sz)))):=HExt.setOwn hi (by omega) (fun e=>by omega)
 have hbl:(subA A c l sz).map (·.block)=A.map (·.block):=by
  unfold subA; split
  ·rfl
  ·cases A with
   | none=>rfl
   | some a=>simp[zj1h]
 obtain⟨hxl,hr⟩:=rep.heap.ents i _ hi
 have hlm:l*sz+m*sz≤n*sz:=by rw[← Nat.add_mul]; exact Nat.mul_le_mul_right _ hl
 have hnew:((xs.drop (l*sz)).take (m*sz)).length=m*sz:=by simp; omega
 have hh:HeapOk E (setn s.H i (.own t (ver+1) sz (subA A c l sz) m (c - l) ((xs.drop (l*sz)).take (m*sz)))) W:=by
  refine rep.heap.set hi x (fun g hg=>.inl (by simp only[SO.fp] at hg ⊢; rw[← hbl]; exact hg)) (fun _ _ _=>rfl) (Nat.le_refl _) rfl rfl rfl ⟨hnew,?_⟩
  rcases hr with⟨rfl,rfl,hA⟩ | ⟨g,b,cur,rfl,hg,h1,h2,h3,h4⟩
  ·have h0:l=0:=by omega
   subst h0
   exact .inl ⟨by omega,rfl,by simpa [subA] using hA⟩
  ·by_cases hc:c=l
   ·subst hc
    refine .inl ⟨by omega,by omega,fun a ha=>?_⟩
    simp only[subA,if_true,Option.some.injEq] at ha
    subst ha; exact⟨_,hg⟩
   ·have e1:subA (some ⟨g,b,none⟩) c l sz=some ⟨g,b+l*sz,none⟩:=by simp[subA,hc,add_lit]
    rw[e1]
    have h5:c*sz=l*sz+(c - l)*sz:=by rw[← Nat.add_mul]; congr 1; omega
    refine .inr ⟨g,b+l*sz,cur,rfl,hg,by omega,by omega,by omega,?_⟩
    rw[← h4,List.drop_take,List.take_take,List.drop_drop,Nat.min_eq_left (by omega)]
 exact rep.ext x hh
theorem Rep.cellsTo {E:Env} {s:SS} {a:Act} {W:World} (rep:Rep E s a W) (i:Nat) {g:Nat} {t:TypeId} {l l':List SV} (hi:nth s.H i=some (.cells g t l)) (h:∀ vs,IsL s.H l vs→IsL s.H l' vs):Rep E { F:=s.F,H:=setn s.H i (.cells g t l') } a W:=by
 have x:HExt s.H (setn s.H i (.cells g t l')):=HExt.setBlk hi rfl rfl
 obtain⟨c,hc,hL⟩:=rep.heap.ents i _ hi
 exact rep.ext x (rep.heap.set hi x (fun g' hg=>.inl hg) (fun _ _ _=>rfl) (Nat.le_refl _) rfl rfl rfl ⟨c,hc,(h _ hL).ext x⟩)
theorem isl_own1 {H:List SO} {A:Option Addr} {n c i ver sz:Nat} {t:TypeId} {xs:List Value} (hi:nth H i=some (.own t ver sz A n c xs)):∀ vs,IsL H [.val (.slice A n c)] vs→IsL H [.own i ver] vs:=by
 intro vs h
 simp only[IsL,Is] at h ⊢
 obtain⟨v,r,rfl,rfl,rfl⟩:=h
 exact⟨_,_,⟨_,_,_,_,_,_,_,hi,Nat.le_refl _,⟨_,_,_,rfl⟩,fun _=>rfl⟩,rfl,rfl⟩
theorem isl_slc1 {H:List SO} {g n j i sz:Nat} {t:TypeId} {xs:List Value} (hj:blk H j=some g) (hi:nth H i=some (.own t 0 sz (some ⟨g,0,none⟩) n n xs)):∀ vs,IsL H [.slc j 0 n n] vs→IsL H [.own i 0] vs:=by
 intro vs h
 simp only[IsL,Is] at h ⊢
 obtain⟨v,r,⟨g',hg,rfl⟩,rfl,rfl⟩:=h
 rw[hj] at hg; injection hg with hg; subst hg
 exact⟨_,_,⟨_,_,_,_,_,_,_,hi,Nat.le_refl _,⟨_,_,_,rfl⟩,fun _=>rfl⟩,rfl,rfl⟩
theorem zj7a {E:Env} {F:List (Nat × SV)} {H:List SO} {a:Act} {W:World} (d:Nat) {x y:SV} (rep:Rep E { F:=F,H:=H } a W) (hl:lk F d=x) (h:∀ v,Is H x v→Is H y v):Rep E { F:=(d,y) :: F,H:=H } a W:=by
 refine⟨rep.size,fun d'=>?_,rep.defers,rep.heap⟩
 have h1:=rep.frame d'
 cases e:d == d' with
 | true =>
  have:=eq_of_beq e
  subst this
  simp only[lk,e]
  simp only[hl] at h1
  exact h _ h1
 | false =>
  simp only[lk,e]
  exact h1
theorem bsv_is {H:List SO} {b:Bool}:∀ v,Is H (.val (.bool b)) v→Is H (bsv b) v:=by
 intro v h
 simp only[Is] at h
 subst h
 cases b <;> simp[bsv,Is]
theorem zj5a {E:Env} {F:List (Nat × SV)} {H:List SO} {a:Act} {W:World} (d:Nat) {b:Bool} (rep:Rep E { F:=F,H:=H } a W) (hl:lk F d=.val (.bool b)):Rep E { F:=(d,bsv b) :: F,H:=H } a W:=zj7a d rep hl bsv_is
def fps (H:List SO):List Nat:=H.filterMap SO.fp
theorem zj1w {H:List SO} {g:Nat}:g ∈ fps H ↔ ∃ i e,nth H i=some e∧e.fp=some g:=by
 unfold fps
 rw[List.mem_filterMap]
 constructor
 ·rintro ⟨e,he,hg⟩
  obtain⟨i,hi⟩:=List.getElem?_of_mem he
  exact⟨i,e,by rw[nth_eq]; exact hi,hg⟩
 ·rintro ⟨i,e,hi,hg⟩
  exact⟨e,List.mem_of_getElem? (by rw[← nth_eq]; exact hi),hg⟩
structure Over (E E':Env):Prop where
 keep:Keep E.old E.b E'.b
 sub:∀ j,E.old j→E'.old j
 floor:E.N≤E'.N
theorem Over.refl (E:Env):Over E E:=⟨Keep.refl _ _,fun _ h=>h,Nat.le_refl _⟩
theorem Over.trans {A B C:Env} (h:Over A B) (k:Over B C):Over A C:=⟨h.keep.trans (k.keep.mono h.sub),fun j hj=>k.sub j (h.sub j hj),Nat.le_trans h.floor k.floor⟩
theorem Over.env {E A B:Env} (hb:B.b=A.b) (hN:B.N=A.N) (hs:B.stolen=A.stolen) (h:Over E A):Over E B:=by
 obtain⟨b,N,st,nt,mk⟩:=A
 obtain⟨b',N',st',nt',mk'⟩:=B
 simp only at hb hN hs
 subst hb; subst hN; subst hs
 exact⟨h.keep,h.sub,h.floor⟩
theorem Over.heap {E E':Env} {H:List SO} {W:World} (h:Over E E') (hh:HeapOk E' H W):HeapOk E H W where
 keep:=h.keep.trans (hh.keep.mono h.sub)
 floor:=Nat.le_trans h.floor hh.floor
 ents:=hh.ents
 fresh i e g hi hg:=⟨(hh.fresh i e g hi hg).1,fun ho=>(hh.fresh i e g hi hg).2 (h.sub g ho)⟩
 dist:=hh.dist
theorem Over.cell {E E':Env} (h:Over E E') {A:Option Addr} {j:Nat} {v:Value} (hc:CellAt E A j v):CellAt E' A j v:=by
 obtain⟨a,rfl,ho,hv⟩:=hc
 refine⟨a,rfl,h.sub _ ho,?_⟩
 rw[← hv]
 unfold World.cell?
 rw[zj1h,h.keep.block _ ho]
theorem HeapOk.rebase {E:Env} {H:List SO} {W:World} (h:HeapOk E H W) (nt:Nat) (mk:List Nat):HeapOk ⟨W,W.heap.size,fps H,nt,mk⟩ H W∧Over E ⟨W,W.heap.size,fps H,nt,mk⟩:=by
 refine⟨⟨Keep.refl _ _,Nat.le_refl _,h.ents,fun i e g hi hg=>⟨(h.fresh i e g hi hg).1,fun ho=>ho.2 (zj1w.2 ⟨i,e,hi,hg⟩)⟩,h.dist⟩,⟨h.keep,fun j hj=>⟨Nat.lt_of_lt_of_le hj.1 h.floor,fun hm=>?_⟩,h.floor⟩⟩
 obtain⟨i,e,hi,hg⟩:=zj1w.1 hm
 exact (h.fresh i e j hi hg).2 hj
theorem Rep.rebase {E:Env} {s:SS} {a:Act} {W:World} (rep:Rep E s a W):Rep ⟨W,W.heap.size,fps s.H,E.nt,E.marks⟩ s a W :=
 ⟨rep.size,rep.frame,rep.defers,(rep.heap.rebase _ _).1⟩
theorem HExt.app (H r:List SO):HExt H (H++r) where
 blk i g h:=by
  rw[blk_eq] at *
  cases hn:nth H i with
  | none=>simp[hn] at h
  | some e'=>rw[zj04 hn]; rw[hn] at h; exact h
 own i t ver sz A n c xs h:=⟨_,_,_,_,_,_,_,zj04 h,Nat.le_refl _,fun _=>⟨rfl,rfl,rfl⟩⟩
theorem zj4l {H r:List SO} {i:Nat} {e:SO} (h:nth (H++r) i=some e):(i < H.length∧nth H i=some e)∨(H.length≤i∧nth r (i - H.length)=some e):=by
 rw[nth_eq] at h
 by_cases hi:i < H.length
 ·rw[List.getElem?_append_left hi] at h
  exact .inl ⟨hi,by rw[nth_eq]; exact h⟩
 ·rw[List.getElem?_append_right (by omega)] at h
  exact .inr ⟨by omega,by rw[nth_eq]; exact h⟩
theorem zj12 {H r:List SO} {i:Nat} {e:SO} (hi:H.length≤i) (h:nth r (i - H.length)=some e):nth (H++r) i=some e:=by
 rw[nth_eq,List.getElem?_append_right hi,← nth_eq]; exact h
theorem HExt.front {H H':List SO} (r:List SO) (x:HExt H H') (hl:H'.length=H.length):HExt (H++r) (H'++r) where
 blk i g h:=by
  rw[blk_eq] at h ⊢
  cases hn:nth (H++r) i with
  | none=>simp[hn] at h
  | some e =>
   rw[hn] at h
   rcases zj4l hn with⟨h1,h2⟩ | ⟨h1,h2⟩
   ·have:=x.blk i g (by rw[blk_eq,h2]; exact h)
    rw[blk_eq] at this
    cases hm:nth H' i with
    | none=>simp[hm] at this
    | some e'=>rw[zj04 hm]; rw[hm] at this; exact this
   ·rw[zj12 (by omega) (by rw[hl]; exact h2)]; exact h
 own i t ver sz A n c xs h:=by
  rcases zj4l h with⟨h1,h2⟩ | ⟨h1,h2⟩
  ·obtain⟨t',v',s',A',n',c',x',e,r1,r2⟩:=x.own i _ _ _ _ _ _ _ h2
   exact⟨t',v',s',A',n',c',x',zj04 e,r1,r2⟩
  ·exact⟨_,_,_,_,_,_,_,zj12 (by omega) (by rw[hl]; exact h2),Nat.le_refl _,fun _=>⟨rfl,rfl,rfl⟩⟩
theorem HeapOk.lend {E:Env} {H1 r:List SO} {W:World} (h:HeapOk E (H1++r) W) (hs:∀ e ∈ H1,scpO H1.length e=true) (nt:Nat) (mk:List Nat):HeapOk ⟨W,W.heap.size,fps H1,nt,mk⟩ H1 W :=
 ((h.pre hs).rebase nt mk).1
theorem HeapOk.unlend {E:Env} {H1 H1' r:List SO} {W W':World} {nt:Nat} {mk:List Nat} (h:HeapOk E (H1++r) W) (k:HeapOk ⟨W,W.heap.size,fps H1,nt,mk⟩ H1' W') (x:HExt H1 H1') (hl:H1'.length=H1.length):HeapOk E (H1'++r) W':=by
 have old1:∀ j,E.old j→Env.old ⟨W,W.heap.size,fps H1,nt,mk⟩ j:=fun j hj=>⟨Nat.lt_of_lt_of_le hj.1 h.floor,fun hm=>by
  obtain⟨i,e,hi,hg⟩:=zj1w.1 hm
  exact (h.fresh i e j (zj04 hi) hg).2 hj⟩
 have oldr:∀ i e g,nth r i=some e→e.fp=some g→Env.old ⟨W,W.heap.size,fps H1,nt,mk⟩ g:=fun i e g hi hg=>by
  have hi':nth (H1++r) (H1.length+i)=some e:=zj12 (by omega) (by rw[Nat.add_sub_cancel_left]; exact hi)
  refine⟨(h.fresh _ e g hi' hg).1,fun hm=>?_⟩
  obtain⟨j,e',hj,hg'⟩:=zj1w.1 hm
  exact h.dist j (H1.length+i) e' e g (by have:=nth_lt hj; omega) (zj04 hj) hi' hg' hg
 refine⟨h.keep.trans (k.keep.mono old1),Nat.le_trans h.floor k.floor,fun i e hi=>?_,fun i e g hi hg=>?_,fun i j e e' g hij hi hj hg hg'=>?_⟩
 ·rcases zj4l hi with⟨h1,h2⟩ | ⟨h1,h2⟩
  ·exact (k.ents i e h2).mono (HExt.app _ _) fun _ _=>rfl
  ·refine (h.ents i e (zj12 (by omega) (by rw[← hl]; exact h2))).mono (HExt.front r x hl) fun g hg=>?_
   exact k.keep.block g (oldr _ e g h2 hg)
 ·rcases zj4l hi with⟨h1,h2⟩ | ⟨h1,h2⟩
  ·exact⟨(k.fresh i e g h2 hg).1,fun ho=>(k.fresh i e g h2 hg).2 (old1 g ho)⟩
  ·have:=h.fresh i e g (zj12 (by omega) (by rw[← hl]; exact h2)) hg
   exact⟨Nat.lt_of_lt_of_le this.1 k.floor,this.2⟩
 ·rcases zj4l hi with⟨h1,h2⟩ | ⟨h1,h2⟩ <;> rcases zj4l hj with⟨h3,h4⟩ | ⟨h3,h4⟩
  ·exact k.dist i j e e' g hij h2 h4 hg hg'
  ·exact (k.fresh i e g h2 hg).2 (oldr _ e' g h4 hg')
  ·exact (k.fresh j e' g h4 hg').2 (oldr _ e g h2 hg)
  ·exact h.dist i j e e' g hij (zj12 (by omega) (by rw[← hl]; exact h2)) (zj12 (by omega) (by rw[← hl]; exact h4)) hg hg'
theorem HeapOk.cell1 {E:Env} {H:List SO} {W:World} (h:HeapOk E H W) {g:Nat} {t:TypeId} {l:List SV} {cs:Array Value} (hc:W.heap[g]? = some (.cells cs t (0,0))) (ho:¬ E.old g) (hf:∀ i e,nth H i=some e→e.fp ≠ some g) (hL:IsL (H++[.cells g t l]) l cs.toList):HeapOk E (H++[.cells g t l]) W :=
 h.pushG (row:=some g) (Nat.le_refl _) rfl rfl rfl (fun _ _ _=>rfl) (fun g' e=>by injection e with e; subst e; exact⟨ho,hf⟩) (fun g' hg=>by
  simp only[SO.fp,Option.some.injEq] at hg; subst hg
  exact⟨.inl rfl,(Array.getElem?_eq_some_iff.1 hc).1⟩) ⟨cs,hc,hL⟩
theorem HeapOk.cellF {E:Env} {H:List SO} {W:World} (h:HeapOk E H W) {g:Nat} {t:TypeId} {l:List SV} {cs:Array Value} (hc:W.heap[g]? = some (.cells cs t (0,0))) (ho:¬ E.old g) (hf:g ∉ fps H) (hL:IsL (H++[.cells g t l]) l cs.toList):HeapOk E (H++[.cells g t l]) W :=
 h.cell1 hc ho (fun i e hi hg=>hf (zj1w.2 ⟨i,e,hi,hg⟩)) hL
theorem zj64 (H:List SO) (g:Nat) (t:TypeId) (l:List SV):fps (H++[.cells g t l])=fps H++[g]:=by
 unfold fps; rw[List.filterMap_append]; rfl
theorem HeapOk.fps_lt {E:Env} {H:List SO} {W:World} (h:HeapOk E H W) {g:Nat} (hg:g ∈ fps H):g < W.heap.size:=by
 obtain⟨i,e,hi,hf⟩:=zj1w.1 hg
 exact (h.fresh i e g hi hf).1
theorem HeapOk.newer {b:World} {N nt:Nat} {mk:List Nat} {H:List SO} {W:World} (h:HeapOk ⟨b,N,[],nt,mk⟩ H W) {i:Nat} {e:SO} {g:Nat} (hi:nth H i=some e) (hg:e.fp=some g):N≤g:=by
 have:=(h.fresh i e g hi hg).2
 simpa only[Env.old,List.not_mem_nil,not_false_eq_true,and_true,Nat.not_lt] using this
def RowE (E:Env) (A:Option Addr) (xs:List Value):Prop:=∀ j u,xs[j]? = some u→CellAt E A j u
theorem RowE.cell {E:Env} {A:Option Addr} {xs:List Value} (h:RowE E A xs) {j:Nat} {u:Value} (hj:xs[j]? = some u):CellAt E A j u:=h j u hj
theorem RowE.over {E E':Env} {A:Option Addr} {xs:List Value} (h:RowE E A xs) (o:Over E E'):RowE E' A xs:=fun j u hj=>o.cell (h j u hj)
theorem RowE.env {E E':Env} (hb:E'.b=E.b) (hN:E'.N=E.N) (hs:E'.stolen=E.stolen) {A:Option Addr} {xs:List Value} (h:RowE E A xs):RowE E' A xs:=h.over ((Over.refl E).env hb hN hs)
theorem RowE.isSome {E:Env} {A:Option Addr} {xs:List Value} (h:RowE E A xs) {j:Nat} (hj:j < xs.length):A.isSome=true:=by
 obtain⟨a,rfl,_⟩:=h j xs[j] (List.getElem?_eq_getElem hj); rfl
theorem RowE.at {E:Env} {A:Option Addr} {xs:List Value} {H:List SO} {W:World} (h:RowE E A xs) (hW:HeapOk E H W):RowAt W A xs:=by
 intro j u hj
 obtain⟨a,rfl,ho,hv⟩:=h j u hj
 refine⟨a,rfl,Nat.lt_of_lt_of_le ho.1 hW.floor,?_⟩
 rw[← hv]
 unfold World.cell?
 rw[zj1h,hW.keep.block _ ho]
theorem RowAt.toE {w:World} {A:Option Addr} {xs:List Value} (h:RowAt w A xs) {st:List Nat} (hst:∀ g ∈ st,∀ (j:Nat) (u:Value) (a:Addr),xs[j]? = some u→A=some a→a.block ≠ g) (nt:Nat) (mk:List Nat):RowE ⟨w,w.heap.size,st,nt,mk⟩ A xs:=by
 intro j u hj
 obtain⟨a,rfl,h1,h2⟩:=h j u hj
 exact⟨a,rfl,⟨h1,fun hm=>hst _ hm j u a hj rfl rfl⟩,h2⟩
theorem zj2s {C:Cx} {E:Env} {d:Option Nat} {f:FuncId} {args:List Operand} {l:List XS} {k:List KI} {F:List (Nat × SV)} (H1 r:List SO) {vs:List Value} (Q:Value→List SO→Prop) (hs:H1.all (scpO H1.length)=true) (hargs:denL (H1++r) (evL F args)=some vs)
  (hc:∀ W,HeapOk E (H1++r) W→HeapOk ⟨W,W.heap.size,fps H1,0,[]⟩ H1 W→CallsV C.P f vs W fun v W'=>∃ H1',Q v H1'∧HExt H1 H1'∧H1'.length=H1.length∧HeapOk ⟨W,W.heap.size,fps H1,0,[]⟩ H1' W')
  (next:∀ v H1',Q v H1'→∃ sv,Is (H1'++r) sv v∧G C E (.ops l :: k) { F:=putF F d sv,H:=H1'++r }) :
  G C E (.ops ({ dst:=d,guard:=none,i:=.call f args } :: l) :: k) { F:=F,H:=H1++r }:=by
 refine zj0b hargs (R:=fun W v W'=>∃ H1',Q v H1'∧HExt H1 H1'∧H1'.length=H1.length∧HeapOk ⟨W,W.heap.size,fps H1,0,[]⟩ H1' W') (fun W hW=>hc W hW (hW.lend (fun e he=>List.all_eq_true.1 hs e he) 0 [])) fun W v W' hW ⟨H1',hQ,hx,hl,hk⟩=>?_
 obtain⟨sv,h1,h2⟩:=next v H1' hQ
 exact⟨sv,H1'++r,h1,HExt.front r hx hl,hW.unlend hk hx hl,h2⟩
theorem zj0j {P:Program} {f:FuncId} {fn:Func} {xc:XC} {args:List Value} {W:World} {R:Value→World→Prop} {keep:List Nat} {tab:Nat→XC} {svs:List SV} {nt m:Nat} {H:List SO} {st:List Nat} {N nt0:Nat} {mk0:List Nat} {b:World}
  (hf:P.funcs[f]? = some fn) (hc:cmpF P fn=some (expand tab m xc)) (hn:fn.ntmps=nt) (hlen:args.length≤nt) (hH:HeapOk ⟨b,N,st,nt0,mk0⟩ H W) (ha:IsL H svs args)
  (h:∀ R':Value→World→Prop,(∀ v W,R v W→R' v W)→G (cxOf P fn keep tab R') ⟨b,N,st,nt,[]⟩ [.code xc] { F:=numF 0 svs,H:=H }):CallsV P f args W R :=
 zj2k hf hc hn hlen hH ha (h R fun _ _ h=>h)
theorem zj4m {P:Program} {f:FuncId} {fn:Func} {xc:XC} {args:List Value} {W:World} {R:Value→World→Prop} {keep:List Nat} {tab:Nat→XC} {svs:List SV} {nt m:Nat} {H:List SO} {st:List Nat} {N nt0:Nat} {mk0:List Nat} {b:World}
  (hf:P.funcs[f]? = some fn) (hc:cmpF P fn=some (expand tab m xc)) (hn:fn.ntmps=nt) (hlen:args.length≤nt) (hH:HeapOk ⟨b,N,st,nt0,mk0⟩ H W) (ha:IsL H svs args)
  (h:∀ R':Value→World→Prop,(∀ v W,R v W→R' v W)→G (cxM P fn keep tab R') ⟨b,N,st,nt,[]⟩ [.code xc] { F:=numF 0 svs,H:=H }):CallsV P f args W R:=by
 obtain⟨c,hb,hc⟩:=zj3h hc
 refine zj15 (r:=none) (n:=0) |>.1 ?_
 refine callsIn_of_wp_marks hf hb trivial ?_ rfl
 have hrep:=zj4j (E:=⟨b,N,st,nt,[]⟩) (H:=H) (W:=W) (nt:=fn.ntmps) hn.symm rfl (by omega) (HeapOk.env (E:=⟨b,N,st,nt0,mk0⟩) (E':=⟨b,N,st,nt,[]⟩) rfl rfl rfl hH) ha
 have hw:=h R (fun _ _ h=>h) _ W hrep m c (by rw[← hn]; exact hc)
 refine wpIn_mono hw fun e a' w' hq=>?_
 cases e with
 | normal=>exact hq
 | ret=>exact hq
 | exit id=>exact hq.elim
 | goto l=>exact hq.elim
 | panic ch=>exact hq.elim
 | outgrown=>exact hq.elim
theorem putObj_at (W:World) (g:Nat) (o:Obj) (j:Nat):(W.putObj g o).heap[j]? = if g=j∧g < W.heap.size then some o else W.heap[j]? := by
 unfold World.putObj
 rw[Array.getElem?_setIfInBounds]
 by_cases h:g=j
 ·subst h
  by_cases h2:g < W.heap.size
  ·simp[h2]
  ·simp[h2]
 ·simp[h]
theorem zj3y {P:Program} {fn:Func} {tmps:Array Value} {R:Ending→World→Prop}:∀ (Ds:List Nat) (W:World),Ds.Nodup→(∀ D ∈ Ds,W.heap[D]? = some (.deferred (some []))) →
  (∀ W',Keep (fun j=>j ∉ Ds) W W'→W'.heap.size=W.heap.size→LeavesIn (WF none) 0 P fn tmps R [] .returning W') →
  LeavesInM (WF none) 0 P fn tmps R (Ds.map fun r=>{ target:=.collected r,args:=#[] }) .returning W
 | [],W,_,_,h=>h W (Keep.refl _ _) rfl
 | D :: Ds,W,hn,hD,h=>by
  have hb:=hD D (by simp)
  refine⟨by simp,.inl ⟨D,_,rfl,run_takeDeferred hb,?_⟩⟩
  have hn':=List.nodup_cons.1 hn
  refine zj3y Ds _ hn'.2 (fun D' hD'=>?_) fun W' hk hs=>h W' ?_ (by rw[hs]; simp[World.putObj])
  ·rw[putObj_at,if_neg (fun e=>hn'.1 (by rw[e.1]; exact hD'))]
   exact hD D' (by simp[hD'])
  ·refine⟨hk.os,hk.tape,hk.output,?_,fun j hj=>?_⟩
   ·have:=hk.size; simpa [World.putObj] using this
   ·simp only[List.mem_cons,not_or] at hj
    rw[hk.block j hj.2,putObj_at,if_neg (fun e=>hj.1 e.1.symm)]
theorem zj65 {P:Program} {fn:Func} {R:Value→World→Prop} {E:Env} {s:SS} {ts:List Nat} {vs:List Value} (hr:resT fn.results.toList=some ts)
  (hv:denAll s.H s.F ts=some vs) (hnd:E.marks.Nodup) (hD:∀ W,HeapOk E s.H W→∀ D ∈ E.marks,W.heap[D]? = some (.deferred (some []))) (h:∀ W W',HeapOk E s.H W→Keep (fun j=>j ∉ E.marks) W W'→W'.heap.size=W.heap.size→R (tupOf vs) W') :
  ∀ a W,Rep E s a W→LeavesInM (WF none) 0 P fn a.tmps (fun e w'=>match e with | .returned v=>R v w' | _=>False) a.defers .returning W:=by
 intro a W rep
 rw[rep.defers]
 refine zj3y E.marks W hnd (hD W rep.heap) fun W' hk hs=>?_
 refine⟨_,zj27 hr a.tmps _,?_⟩
 rw[zj2p rep ts vs hv]
 exact h W W' rep.heap hk hs
theorem ret_marks {P:Program} {fn:Func} {keep:List Nat} {tab:Nat→XC} {R:Value→World→Prop} {E:Env} {s:SS} {ts:List Nat} {vs:List Value} (hr:resT fn.results.toList=some ts)
  (hv:denAll s.H s.F ts=some vs) (hnd:E.marks.Nodup) (hD:∀ W,HeapOk E s.H W→∀ D ∈ E.marks,W.heap[D]? = some (.deferred (some []))) (h:∀ W W',HeapOk E s.H W→Keep (fun j=>j ∉ E.marks) W W'→W'.heap.size=W.heap.size→R (tupOf vs) W'):RetG (cxM P fn keep tab R) E s :=
 fun a W rep=>zj65 hr hv hnd hD h a W rep
theorem stop_marks {P:Program} {fn:Func} {keep:List Nat} {tab:Nat→XC} {R:Value→World→Prop} {E:Env} {s:SS} {ts:List Nat} {vs:List Value} (hr:resT fn.results.toList=some ts)
  (hv:denAll s.H s.F ts=some vs) (hnd:E.marks.Nodup) (hD:∀ W,HeapOk E s.H W→∀ D ∈ E.marks,W.heap[D]? = some (.deferred (some []))) (h:∀ W W',HeapOk E s.H W→Keep (fun j=>j ∉ E.marks) W W'→W'.heap.size=W.heap.size→R (tupOf vs) W'):G (cxM P fn keep tab R) E [] s :=
 fun a W rep=>zj65 hr hv hnd hD h a W rep
theorem HeapOk.others {E E0:Env} {H:List SO} {W W':World} {Ds:List Nat} (h0:HeapOk E0 H W) (h:HeapOk E H W) (hk:Keep (fun j=>j ∉ Ds) W W') (hD:∀ D ∈ Ds,E.old D∧¬ E0.old D):HeapOk E0 H W' where
 keep:=h0.keep.trans (hk.mono fun j hj hm=>(hD j hm).2 hj)
 floor:=Nat.le_trans h0.floor hk.size
 ents i e hi:=(h0.ents i e hi).mono (HExt.refl _) fun g hg=>hk.block g fun hm=>(h.fresh i e g hi hg).2 (hD g hm).1
 fresh i e g hi hg:=⟨Nat.lt_of_lt_of_le (h0.fresh i e g hi hg).1 hk.size,(h0.fresh i e g hi hg).2⟩
 dist:=h0.dist
open Go
set_option maxRecDepth 100000
set_option linter.unusedVariables false
theorem inv_clr {P:Program} {op:Op} {n:Nat} {z:List Value} {x:Operand} (h:cmpK1 P op=some (.clr n z x)):∃ c t e,op=.call c∧c.callee=.builtin .clear∧c.args.toList=[x]∧c.argTypes.toList=[t]∧P.underlying t=some (.slice e)∧szT P e=some n∧zeroT P e=some z∧z.length=n∧0 < n:=by
 unfold cmpK1 zj16 at h
 repeat' (split at h)
 all_goals first | (cases h; done) | (rename_i e1 e2 e3 e4; injection h with h; injection h with h1 h2 h3; subst h1; subst h2; subst h3; exact⟨_,_,_,rfl,by assumption,by assumption,by assumption,by assumption,by assumption,by assumption,by simpa using e4,Nat.succ_pos _⟩)
theorem zj7b {P:Program} {op:Op} {x:XK} (h:cmpK0 P op=some x):isNew x=false:=by
 unfold cmpK0 cmpBin cmpEqa cmpNil cmpUn cmpConv cmpSub cmpIxv cmpIdx cmpFld cmpFldv cmpLoad zj4u zj4v cmpBox zj4w zj3d cmpCall cmpApp at h
 repeat' (split at h)
 all_goals first | (cases h; done) | (injection h with h; subst h; rfl)
theorem cmpK1_clr {P:Program} {op:Op} {n:Nat} {z:List Value} {y:Operand} (h:cmpK P op=some (.clr n z y)):cmpK1 P op=some (.clr n z y):=by
 unfold cmpK at h
 split at h
 ·rename_i y hy; injection h with h; subst h
  have:=zj7b hy
  cases this
 ·split at h
  ·rename_i y hy; injection h with h; subst h; exact hy
  ·split at h
   ·injection h with h; cases h
   ·cases h
theorem repN_range (z:List Value) (n:Nat) (hz:0 < z.length):(List.range (n*z.length)).map (fun t=>z.toArray[t % z.length]!)=repN n z:=by
 apply List.ext_getElem?
 intro t
 by_cases ht:t < n*z.length
 ·rw[zj71 n z t ht,List.getElem?_map,List.getElem?_range ht]
  have:=Nat.mod_lt t hz
  simp[List.getElem?_eq_getElem this,this]
 ·have h1:(repN n z)[t]? = none:=List.getElem?_eq_none (by rw[zj14]; omega)
  have h2:((List.range (n*z.length)).map (fun t=>z.toArray[t % z.length]!))[t]? = none:=List.getElem?_eq_none (by simp; omega)
  rw[h1,h2]
theorem zj5b (z:Array Value) (n:Nat) (hz:0 < z.size):(Builtin.zeroCells z n).toList=repN n z.toList:=by
 have:=repN_range z.toList n (by simpa using hz)
 unfold Builtin.zeroCells
 simpa using this
theorem repN_mem:∀ (c:Nat) (z:List Value) (u:Value),u ∈ repN c z→u ∈ z
 | 0,z,u,h=>by simp[repN] at h
 | c+1,z,u,h=>by
  unfold repN at h
  rcases List.mem_append.1 h with h | h
  ·exact h
  ·exact repN_mem c z u h
theorem clr_rule {C:Cx} {E:Env} {sz:Nat} {z:List Value} {x:Operand} {l:List XS} {k:List KI} {s:SS} {i off n c g:Nat} {t:TypeId} {xs:List Value}
  (hev:ev s.F x=.slc i off n c) (hi:nth s.H i=some (.row g t xs)) (hfit:off+n*sz≤xs.length) (hz:∀ u ∈ z,u.oneCell'=true)
  (next:G C E (.ops l :: k) { F:=s.F,H:=setn s.H i (.row g t (splice xs off (repN n z))) }) :
  G C E (.ops ({ dst:=none,guard:=none,i:=.k (.clr sz z x) } :: l) :: k) s:=by
 intro a W rep ops ol hol
 obtain⟨q,rest,rfl,ho,hl⟩:=zj11 hol
 obtain⟨op,rfl,hd,hdst,hg,hki⟩:=zj10 ho rfl
 have hk:=cmpI_k hki
 show stepS C.r C.P ops _ op _ a W
 refine step_k (Kx:=fun sv H'=>sv=.tup []∧H'=setn s.H i (.row g t (splice xs off (repN n z)))) hk rep ?_ (zj0r hg a) ?_
 ·show Res E C.P s _ op a W
  obtain⟨c1,t1,e1,ho,hcal,hargs,hts,ht,hsz,hz0,hzl,hpos⟩:=inv_clr (cmpK1_clr hk)
  have hargs':c1.args=#[x]:=by rw[← Array.toList_inj]; exact hargs
  have hts':c1.argTypes=#[t1]:=by rw[← Array.toList_inj]; exact hts
  have hx:=rep.ev x
  rw[hev] at hx
  simp only[Is] at hx
  obtain⟨g',hg',hv⟩:=hx
  rw[blk_eq] at hg'
  rw[hi] at hg'; simp only[Option.bind_some,SO.blk] at hg'; injection hg' with hg'; subst hg'
  obtain⟨zv,hzv,hzc⟩:=zj4z hz0
  have hc:=rep.heap.ents i _ hi
  have hc:W.heap[g]? = some (.cells xs.toArray t (0,0)):=hc
  have hlen:(repN n z).length=n*sz:=by rw[zj14,hzl]
  have h1c:∀ u ∈ repN n z,u.oneCell'=true:=fun u hu=>hz u (repN_mem n z u hu)
  have hst:=run_storeCells_at C.P g off t (repN n z) 0 xs.toArray W hc (by simp only[List.size_toArray]; omega) h1c
  have hzc2:(Builtin.zeroCells zv.cells n).toList=repN n z:=by
   have:=zj5b zv.cells n (by rw[hzc]; simp; omega)
   rw[this,hzc]
  have hext:=HExt.setBlk (e':=.row g t (splice xs off (repN n z))) hi rfl rfl
  rcases Nat.eq_zero_or_pos n with hn0 | hn0
  ·subst hn0
   have e3:splice xs off (repN 0 z)=xs:=rfl
   rw[e3] at hext ⊢
   refine⟨.tuple #[],W,.tup [],_,.inl ?_,⟨rfl,rfl⟩,?_,hext,?_⟩
   ·simp[execOp,ho,resolve,invoke,builtin,hcal,hargs',hts',hv,Builtin.clear_,run_underlying ht]
   ·simp only[Is]; exact⟨[],by simp[IsL],rfl⟩
   ·exact rep.heap.set hi hext (fun g' hg'=>.inl hg') (fun _ _ _=>rfl) (Nat.le_refl _) rfl rfl rfl hc
  refine⟨.tuple #[],W.setRow g (splice xs off (repN n z)).toArray,.tup [],_,.inl ?_,⟨rfl,rfl⟩,?_,hext,?_⟩
  ·have e2:(splice xs off (repN n z)).toArray=(xs.toArray.toList.take (off+0)++repN n z++xs.toArray.toList.drop (off+0+(repN n z).length)).toArray:=by
    rw[zj3e _ _ _ (by omega)]; simp
   rw[e2]
   obtain⟨n,rfl⟩:∃ m,n=m+1:=⟨n - 1,by omega⟩
   simp[execOp,ho,resolve,invoke,builtin,hcal,hargs',hts',hv,Builtin.clear_,run_underlying ht,hzv,hzc2,hst]
  ·simp only[Is]; exact⟨[],by simp[IsL],rfl⟩
  ·refine rep.heap.set hi hext (fun g' hg'=>.inl hg') ?_ (by simp[World.setRow]) rfl rfl rfl ?_
   ·intro j hj _
    exact zj2g W g _ j (fun e=>hj (by subst e; rfl))
   ·exact setRow_heap W g xs.toArray _ t _ hc
 ·rintro v W' sv H' ⟨rfl,rfl⟩ hIs hext hheap
  have hdst':(none:Option Nat)=op.dst:=hdst
  exact next (a.put op.dst v) W' (by rw[← hdst']; exact rep.ext hext hheap) ops rest hl
end Go.Sx
namespace Go.Sx
def posOf:List Nat→Nat→Option Nat
 | [],_=>none
 | j :: σ,i=>match j == i with
  | true=>some 0
  | false=>(match posOf σ i with | some k=>some (k+1) | none=>none)
mutual
def renV (σ:List Nat):SV→SV
 | .ptr i off=>(match posOf σ i with | some k=>.ptr k off | none=>.unk)
 | .slc i off n c=>(match posOf σ i with | some k=>.slc k off n c | none=>.unk)
 | .own i ver=>(match posOf σ i with | some k=>.own k ver | none=>.unk)
 | .oad i ver off=>(match posOf σ i with | some k=>.oad k ver off | none=>.unk)
 | .mp i=>(match posOf σ i with | some k=>.mp k | none=>.unk)
 | .agg l=>.agg (renVL σ l)
 | .tup l=>.tup (renVL σ l)
 | .fn f a b=>.fn f (renVL σ a) (renVL σ b)
 | v=>v
def renVL (σ:List Nat):List SV→List SV
 | []=>[]
 | s :: l=>renV σ s :: renVL σ l
end
def renO (σ:List Nat):SO→SO
 | .cells g t l=>.cells g t (renVL σ l)
 | e=>e
def pickE (σ:List Nat):Option SO→SO
 | some e=>renO σ e
 | none=>.gone 0
def pickH (σ:List Nat) (H:List SO):List Nat→List SO
 | []=>[]
 | j :: τ=>pickE σ (nth H j) :: pickH σ H τ
def renF (σ:List Nat):List (Nat × SV)→List (Nat × SV)
 | []=>[]
 | (d,v) :: l=>(d,renV σ v) :: renF σ l
theorem posOf_get:∀ {σ:List Nat} {i k:Nat},posOf σ i=some k→σ[k]? = some i
 | [],_,_,h=>by cases h
 | j :: σ,i,k,h=>by
  simp only[posOf] at h
  cases hb:j == i with
  | true => rw [hb] at h; injection h with h; subst h; have : j = i := by simpa using hb
            subst this; rfl
  | false =>
   rw[hb] at h
   cases hp:posOf σ i with
   | none=>rw[hp] at h; cases h
   | some m=>rw[hp] at h; injection h with h; subst h; exact (posOf_get (σ:=σ) hp)
theorem zj5c (σ:List Nat) (H:List SO):∀ (τ:List Nat) (k:Nat),nth (pickH σ H τ) k=(τ[k]?).map fun j=>pickE σ (nth H j)
 | [],k=>by simp[pickH,nth]
 | j :: τ,0=>by simp[pickH,nth]
 | j :: τ,k+1=>by simp[pickH,nth,zj5c σ H τ k]
theorem nth_pos {σ:List Nat} {H:List SO} {i k:Nat} {e:SO} (hp:posOf σ i=some k) (he:nth H i=some e):nth (pickH σ H σ) k=some (renO σ e):=by
 rw[zj5c,posOf_get hp]; simp[he,pickE]
theorem blk_renO (σ:List Nat) (e:SO):(renO σ e).blk=e.blk:=by cases e <;> rfl
theorem fp_renO (σ:List Nat) (e:SO):(renO σ e).fp=e.fp:=by cases e <;> rfl
theorem zj7c {σ:List Nat} {H:List SO} {i k g:Nat} (hp:posOf σ i=some k) (h:blk H i=some g):blk (pickH σ H σ) k=some g:=by
 rw[blk_eq] at *
 cases he:nth H i with
 | none=>rw[he] at h; cases h
 | some e=>rw[he] at h; rw[nth_pos hp he]; simp only[Option.bind_some] at *; rw[blk_renO]; exact h
mutual
theorem Is.ren {σ:List Nat} {H:List SO}:∀ (s:SV) {v:Value},Is H s v→Is (pickH σ H σ) (renV σ s) v
 | .unk,_,_=>by simp[renV,Is]
 | .val _,_,h=>by simpa [renV,Is] using h
 | .opq _ _,_,h=>by simpa [renV,Is] using h
 | .bt,_,h=>by simpa [renV,Is] using h
 | .bf,_,h=>by simpa [renV,Is] using h
 | .ptr i off,_,h=>by
  simp only[renV]
  split
  ·rename_i k hk
   simp only[Is] at *; obtain⟨g,hg,hv⟩:=h; exact⟨g,zj7c hk hg,hv⟩
  ·simp[Is]
 | .adr A off,_,h=>by simpa [renV,Is] using h
 | .slc i off n c,_,h=>by
  simp only[renV]
  split
  ·rename_i k hk
   simp only[Is] at *; obtain⟨g,hg,hv⟩:=h; exact⟨g,zj7c hk hg,hv⟩
  ·simp[Is]
 | .own i ver,_,h=>by
  simp only[renV]
  split
  ·rename_i k hk
   simp only[Is] at *
   obtain⟨t,v',sz,A,n,c,xs,he,hle,hsh,hv⟩:=h
   exact⟨t,v',sz,A,n,c,xs,nth_pos hk he,hle,hsh,hv⟩
  ·simp[Is]
 | .oad i ver off,_,h=>by
  simp only[renV]
  split
  ·rename_i k hk
   simp only[Is] at *
   obtain⟨t,v',sz,A,n,c,xs,he,hle,hsh,hv⟩:=h
   exact⟨t,v',sz,A,n,c,xs,nth_pos hk he,hle,hsh,hv⟩
  ·simp[Is]
 | .mp i,_,h=>by
  simp only[renV]
  split
  ·rename_i k hk
   simp only[Is] at *; obtain⟨g,hg,hv⟩:=h; exact⟨g,zj7c hk hg,hv⟩
  ·simp[Is]
 | .agg l,_,h=>by simp only[renV,Is] at *; obtain⟨vs,hl,hv⟩:=h; exact⟨vs,IsL.ren l hl,hv⟩
 | .tup l,_,h=>by simp only[renV,Is] at *; obtain⟨vs,hl,hv⟩:=h; exact⟨vs,IsL.ren l hl,hv⟩
 | .fn f a b,_,h=>by simp only[renV,Is] at *; obtain⟨p,q,hp,hq,hv⟩:=h; exact⟨p,q,IsL.ren a hp,IsL.ren b hq,hv⟩
theorem IsL.ren {σ:List Nat} {H:List SO}:∀ (l:List SV) {vs:List Value},IsL H l vs→IsL (pickH σ H σ) (renVL σ l) vs
 | [],_,h=>by simpa [renVL,IsL] using h
 | s :: l,_,h=>by
  simp only[renVL,IsL] at *; obtain⟨v,r,hv,hr,e⟩:=h
  exact⟨v,r,Is.ren s hv,IsL.ren l hr,e⟩
end
theorem HeapOk.pick {E:Env} {H:List SO} {W:World} (h:HeapOk E H W) (σ:List Nat) (hσ:σ.Nodup):HeapOk E (pickH σ H σ) W:=by
 have key:∀ k e,nth (pickH σ H σ) k=some e→∃ j,σ[k]? = some j∧e=pickE σ (nth H j):=fun k e hk=>by
  rw[zj5c] at hk
  cases hj:σ[k]? with
  | none=>rw[hj] at hk; cases hk
  | some j=>rw[hj] at hk; injection hk with hk; exact⟨j,rfl,hk.symm⟩
 refine⟨h.keep,h.floor,fun k e hk=>?_,fun k e g hk hg=>?_,fun k m e e' g hkm hk hm hg=>?_⟩
 ·obtain⟨j,_,rfl⟩:=key k e hk
  cases hn:nth H j with
  | none=>trivial
  | some e' =>
   have:=h.ents j e' hn
   cases e' with
   | cells g t l=>obtain⟨c,hc,hL⟩:=this; exact⟨c,hc,IsL.ren l hL⟩
   | _=>exact this
 ·obtain⟨j,_,rfl⟩:=key k e hk
  cases hn:nth H j with
  | none=>rw[hn] at hg; simp[pickE,SO.fp] at hg
  | some e' =>
   rw[hn] at hg
   simp only[pickE] at hg
   rw[fp_renO] at hg
   exact h.fresh j e' g hn hg
 ·obtain⟨j,hj,rfl⟩:=key k e hk
  obtain⟨i,hi,rfl⟩:=key m e' hm
  cases hn:nth H j with
  | none=>rw[hn] at hg; simp[pickE,SO.fp] at hg
  | some e1 =>
   cases hn2:nth H i with
   | none=>simp[pickE,SO.fp]
   | some e2 =>
    rw[hn] at hg
    simp only[pickE] at hg ⊢
    rw[fp_renO] at hg ⊢
    refine h.dist j i e1 e2 g (fun e=>hkm ?_) hn hn2 hg
    subst e
    obtain⟨hk1,he1⟩:=List.getElem?_eq_some_iff.1 hj
    obtain⟨hk2,he2⟩:=List.getElem?_eq_some_iff.1 hi
    exact (List.getElem_inj hσ).1 (he1.trans he2.symm)
theorem lk_renF (σ:List Nat):∀ (F:List (Nat × SV)) (d:Nat),lk (renF σ F) d=renV σ (lk F d)
 | [],d=>by simp[renF,lk,renV]
 | (e,v) :: F,d=>by
  simp only[renF,lk]
  cases e == d with
  | true=>rfl
  | false=>exact lk_renF σ F d
theorem Rep.pick {E:Env} {s:SS} {a:Act} {W:World} (rep:Rep E s a W) (σ:List Nat) (hσ:σ.Nodup):Rep E { F:=renF σ s.F,H:=pickH σ s.H σ } a W :=
 ⟨rep.size,fun d=>by
  show Is _ (lk (renF σ s.F) d) _
  rw[lk_renF]; exact Is.ren _ (rep.frame d),rep.defers,rep.heap.pick σ hσ⟩
theorem Rep.lp {E:Env} {s s1:SS} {a:Act} {W:World} (rep:Rep E s a W) (h:leF s1.H.length s.F s1.F:=by (simp only[go_sem,renF,renV,renVL,renO,pickH,pickE,posOf,lk,Nat.reduceBEq,Nat.reduceLT,Nat.reduceAdd] <;> try simp)) (k:leH s1.H.length s.H s1.H:=by (simp only[go_sem,renF,renV,renVL,renO,pickH,pickE,posOf,lk,Nat.reduceBEq,Nat.reduceLT,Nat.reduceAdd] <;> try simp)):Rep E s1 a W:=rep.le h k
theorem zj1i {C:Cx} {E:Env} {d:Option Nat} {f:FuncId} {args:List Operand} {l:List XS} {k:List KI} {s:SS} {vs:List Value} (hargs:denL s.H (evL s.F args)=some vs)
  {R:World→Value→World→Prop} (hc:∀ W,HeapOk E s.H W→CallsV C.P f vs W (R W)) (hk:∀ W v W',R W v W'→Fresh W W')
  (next:∀ W v W',HeapOk E s.H W→R W v W'→Over E ⟨W',W'.heap.size,fps s.H,E.nt,E.marks⟩→∃ sv,Is s.H sv v∧G C ⟨W',W'.heap.size,fps s.H,E.nt,E.marks⟩ (.ops l :: k) { F:=putF s.F d sv,H:=s.H }) :
  G C E (.ops ({ dst:=d,guard:=none,i:=.call f args } :: l) :: k) s:=by
 intro a W rep ops ol hol
 obtain⟨q,rest,rfl,ho,hl⟩:=zj11 hol
 obtain⟨op,rfl,hd,hdst,hg,hi⟩:=zj10 ho rfl
 obtain⟨c,hop,hcal,hargs',hok⟩:=zj53 hi
 have hn:=zj28 hi (by simp)
 have hw:=zj0r hg a
 show stepS C.r C.P ops _ op _ a W
 unfold stepS
 rw[if_pos hw,zj32 hop hn]
 refine⟨fun _ _=>trivial,?_⟩
 have hnd:∀ c',op.op ≠ .defer c':=by intro c' e; rw[hop] at e; cases e
 have hvs:(c.args.map a.eval)=vs.toArray:=by
  have:=zj0t _ hargs (rep.evL args)
  rw[← hargs'] at this
  rw[← this,← Array.toList_map,Array.toArray_toList]
 have hrun:(execOp a.eval op).run C.P W=.ok (.enter f vs.toArray) W:=by
  simp only[execOp,hop,resolve,hcal,Act.eval,hvs,Deferred.ofValue,Sem.run_bind,Sem.run_pure,Result.andThen_ok,invoke,Array.append_empty,Array.empty_append]
  exact zj0q hok _ W
 rw[Oper.semAt_eq _ _ _ hnd,hrun]
 refine⟨fun h=>by simp[WF,Fence.wide] at h,?_⟩
 refine zj15.2 ?_
 refine Calls.mono (hc W rep.heap) fun e W' he=>?_
 cases e with
 | returned v =>
  have hh:HeapOk E s.H W':=rep.heap.freshK (hk W v W' he)
  obtain⟨sv,h1,h4⟩:=next W v W' rep.heap he (hh.rebase E.nt E.marks).2
  have hdst':d=op.dst:=hdst
  have hr:Rep E { F:=putF s.F d sv,H:=s.H } (a.put op.dst v) W':=by
   rw[← hdst']; exact (rep.ext (HExt.refl _) hh).put (fun m hm=>hd m (by rw[← hdst']; exact hm)) h1
  exact h4 (a.put op.dst v) W' hr.rebase ops rest hl
 | panicked ch=>exact he.elim
 | outgrown=>exact he.elim
theorem ret_rvm {P:Program} {fn:Func} {keep:List Nat} {tab:Nat→XC} {R:Value→World→Prop} {E:Env} {s:SS} {rs:List RV} {vs:List Value} {D:Nat} (i:Nat) (hr:rvOf P fn.results.toList=some rs) (hm:E.marks=[D])
  (hi:nth s.H i=some (.obj D (.deferred (some [])))) (hv:denR (setn s.H i (.obj D (.deferred none))) s.F rs=some vs) (h:∀ W,HeapOk E (setn s.H i (.obj D (.deferred none))) W→R (tupOf vs) W):RetG (cxM P fn keep tab R) E s:=by
 intro a W rep
 have hd:a.defers=[{ target:=.collected D,args:=#[] }]:=by rw[rep.defers,hm]; rfl
 show LeavesInM _ _ _ _ _ _ a.defers .returning W
 rw[hd]
 have hb:W.heap[D]? = some (.deferred (some [])):=rep.heap.ents i _ hi
 refine⟨by simp,.inl ⟨D,_,rfl,run_takeDeferred hb,?_⟩⟩
 obtain⟨x,hh⟩:=rep.heap.putObj hi (.deferred none)
 show LeavesIn _ _ _ _ _ _ [] .returning _
 have rep':Rep E { F:=s.F,H:=setn s.H i (.obj D (.deferred none)) } a _:=rep.ext x hh
 exact⟨_,zj2l rep' hr hv,h _ hh⟩
theorem zj3k {w:World} {N M:Nat} {t:TypeId} {sz n:Nat} {v:Value} {xs:List Value} (h:World.ownsB w N t sz v n xs) (hm:M≤N):World.ownsB w M t sz v n xs:=by
 obtain⟨hl,⟨A,h1,h2,h3⟩ | ⟨g,b,cap,cur,h1,h2,h3⟩⟩:=h
 ·exact⟨hl,.inl ⟨A,h1,h2,fun a ha=>⟨Nat.le_trans hm (h3 a ha).1,(h3 a ha).2⟩⟩⟩
 ·exact⟨hl,.inr ⟨g,b,cap,cur,h1,Nat.le_trans hm h2,h3⟩⟩
theorem ownsB_keep {w w':World} {N:Nat} {t:TypeId} {sz n:Nat} {v:Value} {xs:List Value} (h:World.ownsB w N t sz v n xs) (k:Fresh w w'):World.ownsB w' N t sz v n xs:=by
 obtain⟨hl,⟨A,h1,h2,h3⟩ | ⟨g,b,cap,cur,h1,h2,h3,h4⟩⟩:=h
 ·refine⟨hl,.inl ⟨A,h1,h2,fun a ha=>⟨(h3 a ha).1,?_⟩⟩⟩
  obtain⟨o,ho⟩:=(h3 a ha).2
  exact⟨o,by rw[k.block _ (Array.getElem?_eq_some_iff.1 ho).1]; exact ho⟩
 ·exact⟨hl,.inr ⟨g,b,cap,cur,h1,h2,by rw[k.block _ (Array.getElem?_eq_some_iff.1 h3).1]; exact h3,h4⟩⟩
theorem Fresh.tr {a b c:World} (h:Fresh a b) (k:Fresh b c):Fresh a c:=Keep.trans h (Keep.mono k fun j hj=>Nat.lt_of_lt_of_le hj h.size)
theorem ownsB_max {w:World} {N:Nat} {t:TypeId} {sz n:Nat} {v:Value} {xs:List Value} (ho:World.ownsB w N t sz v n xs):n≤maxLen:=by
 obtain⟨_,⟨_,_,h0,_⟩ | ⟨g,b,cap,cur,_,_,_,h1,h2,_⟩⟩:=ho
 ·rw[h0]; exact Nat.zero_le _
 ·exact Nat.le_trans h1 h2
theorem Rep.nilH {E:Env} {s:SS} {a:Act} {W:World} (rep:Rep E s a W) (t:TypeId) (sz:Nat):Rep E { F:=s.F,H:=s.H++[.own t 0 sz none 0 0 []] } a W:=by
 have hx:=HExt.push s.H (.own t 0 sz none 0 0 [])
 have hh:HeapOk E (s.H++[.own t 0 sz none 0 0 []]) W:=rep.heap.pushG (row:=none) (Nat.le_refl _) rfl rfl rfl (fun _ _ _=>rfl) (fun _ e=>by cases e) (fun g hg=>by simp[SO.fp] at hg) ⟨by simp,.inl ⟨rfl,rfl,fun a h=>by cases h⟩⟩
 exact rep.ext hx hh
theorem isl_nil {H:List SO} {i:Nat} {t:TypeId} {sz:Nat} {xs:List Value} (hi:nth H i=some (.own t 0 sz none 0 0 xs)) {v:Value} (h:Is H (.val (.slice none 0 0)) v):Is H (.own i 0) v:=by
 simp only[Is] at h ⊢
 subst h
 exact⟨_,_,_,_,_,_,_,hi,Nat.le_refl _,⟨_,_,_,rfl⟩,fun _=>rfl⟩
theorem HeapOk.off {E:Env} {H1 r:List SO} {W:World} (h:HeapOk E (H1++r) W) {i:Nat} {e:SO} {g:Nat} (hi:nth r i=some e) (hg:e.fp=some g):g < W.heap.size∧g ∉ fps H1∧¬ E.old g:=by
 have hi':nth (H1++r) (H1.length+i)=some e:=zj12 (by omega) (by rw[Nat.add_sub_cancel_left]; exact hi)
 refine⟨(h.fresh _ e g hi' hg).1,fun hm=>?_,(h.fresh _ e g hi' hg).2⟩
 obtain⟨j,e',hj,hg'⟩:=zj1w.1 hm
 exact h.dist j (H1.length+i) e' e g (by have:=nth_lt hj; omega) (zj04 hj) hi' hg' hg
theorem HeapOk.rowOff {E:Env} {H1 r:List SO} {W:World} (h:HeapOk E (H1++r) W) {i:Nat} {t:TypeId} {ver sz n c:Nat} {A:Option Addr} {xs:List Value} (hi:nth r i=some (.own t ver sz A n c xs)) (nt:Nat) (mk:List Nat):RowE ⟨W,W.heap.size,fps H1,nt,mk⟩ A xs:=by
 have hi':nth (H1++r) (H1.length+i)=some (.own t ver sz A n c xs):=zj12 (by omega) (by rw[Nat.add_sub_cancel_left]; exact hi)
 intro j u hj
 obtain⟨hl,⟨rfl,rfl,hA⟩ | ⟨g,b,cur,rfl,hg,h1,h2,h3,h4⟩⟩:=h.ents _ _ hi'
 ·have:=(List.getElem?_eq_some_iff.1 hj).1
  rw[hl] at this; simp at this
 ·have ho:=h.off hi (g:=g) rfl
  refine⟨_,rfl,⟨ho.1,ho.2.1⟩,?_⟩
  have hg:W.heap[g]? = some (.cells cur t (0,0)):=hg
  rw[add_lit,cell_of_row W g _ cur t (0,0) hg]
  rw[← h4,List.getElem?_take] at hj
  split at hj
  ·rw[List.getElem?_drop] at hj; simpa using hj
  ·cases hj
theorem HeapOk.objOff {E:Env} {H1 r:List SO} {W:World} (h:HeapOk E (H1++r) W) {i D:Nat} {o:Obj} (hi:nth r i=some (.obj D o)) (nt:Nat) (mk:List Nat):W.heap[D]? = some o∧Env.old ⟨W,W.heap.size,fps H1,nt,mk⟩ D∧¬ E.old D:=by
 have hi':nth (H1++r) (H1.length+i)=some (.obj D o):=zj12 (by omega) (by rw[Nat.add_sub_cancel_left]; exact hi)
 have ho:=h.off hi (g:=D) rfl
 exact⟨h.ents _ _ hi',⟨ho.1,ho.2.1⟩,ho.2.2⟩
theorem Rep.cut {E:Env} {F:List (Nat × SV)} {H1 r:List SO} {a:Act} {W:World} (rep:Rep E { F:=F,H:=H1++r } a W) (hs:H1.all (scpO H1.length)=true) (hF:∀ d,Is H1 (lk F d) (a.tmps.getD d undef)):Rep ⟨W,W.heap.size,fps H1,E.nt,E.marks⟩ { F:=F,H:=H1 } a W∧Over E ⟨W,W.heap.size,fps H1,E.nt,E.marks⟩:=by
 have hh:HeapOk E H1 W:=rep.heap.pre fun e he=>List.all_eq_true.1 hs e he
 have:=hh.rebase E.nt E.marks
 exact⟨⟨rep.size,hF,rep.defers,this.1⟩,this.2⟩
structure MarksOk (E0 E:Env):Prop where
 nodup:E.marks.Nodup
 ok:∀ D ∈ E.marks,E.b.heap[D]? = some (.deferred (some []))∧E.old D∧¬ E0.old D
theorem MarksOk.nil (E0 E:Env) (h:E.marks=[]):MarksOk E0 E:=⟨by rw[h]; simp,fun D hD=>by rw[h] at hD; simp at hD⟩
theorem MarksOk.more {E0 E E':Env} (h:MarksOk E0 E) (o:Over E E') {D:Nat} (hm:E'.marks=D :: E.marks) (hD:E'.b.heap[D]? = some (.deferred (some []))) (h1:E'.old D) (h2:¬ E.old D) (ho:Over E0 E):MarksOk E0 E':=by
 refine⟨?_,fun D' hD'=>?_⟩
 ·rw[hm]
  exact List.nodup_cons.2 ⟨fun hin=>h2 (h.ok D hin).2.1,h.nodup⟩
 ·rw[hm] at hD'
  rcases List.mem_cons.1 hD' with e | e
  ·subst e; exact⟨hD,h1,fun k=>h2 (ho.sub _ k)⟩
  ·obtain⟨k1,k2,k3⟩:=h.ok D' e
   exact⟨by rw[o.keep.block D' k2]; exact k1,o.sub D' k2,k3⟩
theorem MarksOk.here {E0 E:Env} (h:MarksOk E0 E) {H:List SO}:∀ W,HeapOk E H W→∀ D ∈ E.marks,W.heap[D]? = some (.deferred (some [])):=fun W hW D hD=>by
 obtain⟨k1,k2,_⟩:=h.ok D hD
 rw[hW.keep.block D k2]; exact k1
theorem RowE.atM {E0 E:Env} {A:Option Addr} {xs:List Value} {H:List SO} {W W':World} (h:RowE E A xs) (hm:MarksOk E0 E) (hW:HeapOk E H W) (hk:Keep (fun j=>j ∉ E.marks) W W'):RowAt W' A xs:=by
 intro j u hj
 obtain⟨a,rfl,ho,hv⟩:=h j u hj
 have hnm:a.block ∉ E.marks:=fun hin=>by
  have hd:=(hm.ok _ hin).1
  unfold World.cell? at hv
  rw[zj1h,hd] at hv
  simp at hv
 refine⟨a,rfl,Nat.lt_of_lt_of_le ho.1 (Nat.le_trans hW.floor hk.size),?_⟩
 rw[← hv]
 unfold World.cell?
 rw[zj1h,hk.block _ hnm,hW.keep.block _ ho]
theorem MarksOk.heap {E0 E:Env} (hm:MarksOk E0 E) (o:Over E0 E) {H:List SO} {W W':World} (hW:HeapOk E H W) (hk:Keep (fun j=>j ∉ E.marks) W W'):HeapOk E0 H W' :=
 HeapOk.others (o.heap hW) hW hk fun D hD=>⟨(hm.ok D hD).2.1,(hm.ok D hD).2.2⟩
theorem G.free {C:Cx} {E:Env} {k:List KI} {F F':List (Nat × SV)} {H:List SO} (hF:∀ a W,Rep E { F:=F,H:=H } a W→Rep E { F:=F',H:=H } a W) (hc:∀ a W,Rep E { F:=F',H:=H } a W→Rep E { F:=F',H:=[] } a W)
  (next:∀ W,HeapOk E ([]++H) W→Over E ⟨W,W.heap.size,[],E.nt,E.marks⟩→G C ⟨W,W.heap.size,[],E.nt,E.marks⟩ k { F:=F',H:=[] }):G C E k { F:=F,H:=H }:=by
 intro a W rep
 have r1:=hF a W rep
 have h2:=Rep.cut (H1:=[]) (r:=H) r1 rfl (hc a W r1).frame
 exact next W r1.heap h2.2 a W h2.1
theorem HExt.nilTo (H:List SO):HExt [] H:=HExt.app [] H
theorem EntryOk.shut {H H':List SO} {h:Nat→Option Obj} {e:SO} (hc:scpO 0 e=true) (k:EntryOk H h e):EntryOk H' h e:=by
 cases e with
 | cells g t l =>
  obtain⟨c,h1,h2⟩:=k
  exact⟨c,h1,(IsL.pre (H':=[]) (r:=H) l hc h2).ext (HExt.nilTo H')⟩
 | row=>exact k
 | own=>exact k
 | map=>exact k
 | obj=>exact k
 | gone=>trivial
 | frz=>exact k
def Apart (a b:SO):Prop:=∀ g,a.fp=some g→b.fp ≠ some g
theorem Apart.symm {a b:SO} (h:Apart a b):Apart b a:=fun g hb ha=>h g ha hb
theorem HeapOk.apart {E:Env} {H:List SO} {W:World} (h:HeapOk E H W):H.Pairwise Apart:=by
 rw[List.pairwise_iff_getElem]
 intro i j hi hj hij g
 exact h.dist i j _ _ g (by omega) (by rw[nth_eq,List.getElem?_eq_getElem hi]) (by rw[nth_eq,List.getElem?_eq_getElem hj])
theorem dist_of {H:List SO} (h:H.Pairwise Apart):∀ i j e e' g,i ≠ j→nth H i=some e→nth H j=some e'→e.fp=some g→e'.fp ≠ some g:=by
 intro i j e e' g hij hi hj hg
 rw[nth_eq] at hi hj
 obtain⟨h1,rfl⟩:=List.getElem?_eq_some_iff.1 hi
 obtain⟨h2,rfl⟩:=List.getElem?_eq_some_iff.1 hj
 rw[List.pairwise_iff_getElem] at h
 rcases Nat.lt_or_gt_of_ne hij with hl | hl
 ·exact h i j h1 h2 hl g hg
 ·exact (h j i h2 h1 hl).symm g hg
theorem HeapOk.mk' {E:Env} {H:List SO} {W:World} (hk:Keep E.old E.b W) (hf:E.N≤W.heap.size) (he:∀ e ∈ H,EntryOk H (fun g=>W.heap[g]?) e) (hfr:∀ e ∈ H,∀ g,e.fp=some g→g < W.heap.size∧¬ E.old g) (hd:H.Pairwise Apart):HeapOk E H W where
 keep:=hk
 floor:=hf
 ents i e hi:=he e (List.mem_of_getElem? (by rw[← nth_eq]; exact hi))
 fresh i e g hi:=hfr e (List.mem_of_getElem? (by rw[← nth_eq]; exact hi)) g
 dist:=dist_of hd
theorem HeapOk.ent {E:Env} {H:List SO} {W:World} (h:HeapOk E H W) {e:SO} (he:e ∈ H):EntryOk H (fun g=>W.heap[g]?) e:=by
 obtain⟨i,hi⟩:=List.getElem?_of_mem he
 exact h.ents i e (by rw[nth_eq]; exact hi)
theorem HeapOk.fr {E:Env} {H:List SO} {W:World} (h:HeapOk E H W) {e:SO} (he:e ∈ H) {g:Nat} (hg:e.fp=some g):g < W.heap.size∧¬ E.old g:=by
 obtain⟨i,hi⟩:=List.getElem?_of_mem he
 exact h.fresh i e g (by rw[nth_eq]; exact hi) hg
theorem HeapOk.fam {E:Env} {b r r':List SO} {W:World} (h:HeapOk E (b++r) W) (hb:∀ e ∈ b,scpO b.length e=true) (hr:∀ e ∈ r,scpO 0 e=true) (hp:r.Perm r'):HeapOk E (b++r') W:=by
 refine HeapOk.mk' h.keep h.floor (fun e he=>?_) (fun e he g hg=>h.fr (((List.Perm.append_left b hp).mem_iff).2 he) hg) ?_
 ·rcases List.mem_append.1 he with h1 | h1
  ·obtain⟨i,hi⟩:=List.getElem?_of_mem h1
   exact ((h.pre hb).ents i e (by rw[nth_eq]; exact hi)).mono (HExt.app b r') fun _ _=>rfl
  ·exact (h.ent (List.mem_append_right _ (hp.mem_iff.2 h1))).shut (hr e (hp.mem_iff.2 h1))
 ·exact ((List.Perm.append_left b hp).pairwise_iff (fun h=>h.symm)).1 h.apart
theorem HeapOk.back {E:Env} {H1 r H1':List SO} {W W':World} {nt:Nat} {mk:List Nat} (h:HeapOk E (H1++r) W) (hr:∀ e ∈ r,scpO 0 e=true) (k:HeapOk ⟨W,W.heap.size,fps H1,nt,mk⟩ H1' W'):HeapOk E (H1'++r) W':=by
 have old1:∀ j,E.old j→Env.old ⟨W,W.heap.size,fps H1,nt,mk⟩ j:=fun j hj=>⟨Nat.lt_of_lt_of_le hj.1 h.floor,fun hm=>by
  obtain⟨i,e,hi,hg⟩:=zj1w.1 hm
  exact (h.fresh i e j (zj04 hi) hg).2 hj⟩
 have oldr:∀ e ∈ r,∀ g,e.fp=some g→Env.old ⟨W,W.heap.size,fps H1,nt,mk⟩ g:=fun e he g hg=>by
  refine⟨(h.fr (List.mem_append_right _ he) hg).1,fun hm=>?_⟩
  obtain⟨j,e',hj,hg'⟩:=zj1w.1 hm
  obtain⟨i,hi⟩:=List.getElem?_of_mem he
  have hi':nth (H1++r) (H1.length+i)=some e:=zj12 (by omega) (by rw[Nat.add_sub_cancel_left,nth_eq]; exact hi)
  exact h.dist j (H1.length+i) e' e g (by have:=nth_lt hj; omega) (zj04 hj) hi' hg' hg
 refine HeapOk.mk' (h.keep.trans (k.keep.mono old1)) (Nat.le_trans h.floor k.floor) (fun e he=>?_) (fun e he g hg=>?_) ?_
 ·rcases List.mem_append.1 he with h1 | h1
  ·exact (k.ent h1).mono (HExt.app _ _) fun _ _=>rfl
  ·exact ((h.ent (List.mem_append_right _ h1)).mono (HExt.refl _) fun g hg=>k.keep.block g (oldr e h1 g hg)).shut (hr e h1)
 ·rcases List.mem_append.1 he with h1 | h1
  ·exact⟨(k.fr h1 hg).1,fun ho=>(k.fr h1 hg).2 (old1 g ho)⟩
  ·have:=h.fr (List.mem_append_right _ h1) hg
   exact⟨Nat.lt_of_lt_of_le this.1 k.floor,this.2⟩
 ·rw[List.pairwise_append]
  refine⟨k.apart,((List.pairwise_append.1 h.apart).2).1,fun e he e' he' g hg hg'=>?_⟩
  exact (k.fr he hg).2 (oldr e' he' g hg')
mutual
theorem scp_mono {m:Nat}:∀ (s:SV),scp 0 s=true→scp m s=true
 | .unk,_=>rfl
 | .val _,_=>rfl
 | .opq _ _,_=>rfl
 | .bt,_=>rfl
 | .bf,_=>rfl
 | .ptr i off,h=>by simp[scp] at h
 | .adr A off,_=>rfl
 | .slc i off n c,h=>by simp[scp] at h
 | .own i ver,h=>by simp[scp] at h
 | .oad i ver off,h=>by simp[scp] at h
 | .mp i,h=>by simp[scp] at h
 | .agg l,h=>by simp only[scp] at h ⊢; exact zj2t l h
 | .tup l,h=>by simp only[scp] at h ⊢; exact zj2t l h
 | .fn f a b,h=>by
  simp only[scp,Bool.and_eq_true] at h ⊢
  exact⟨zj2t a h.1,zj2t b h.2⟩
theorem zj2t {m:Nat}:∀ (l:List SV),scpL 0 l=true→scpL m l=true
 | [],_=>rfl
 | s :: l,h=>by
  simp only[scpL,Bool.and_eq_true] at h ⊢
  exact⟨scp_mono s h.1,zj2t l h.2⟩
end
theorem HeapOk.rowAt' {E:Env} {H:List SO} {W:World} (h:HeapOk E H W) {i:Nat} {t:TypeId} {ver sz n c:Nat} {A:Option Addr} {xs:List Value} (hi:nth H i=some (.own t ver sz A n c xs)):RowAt W A xs:=by
 intro j u hj
 obtain⟨hl,⟨rfl,rfl,_⟩ | ⟨g,b,cur,rfl,hg,h1,h2,h3,h4⟩⟩:=h.ents i _ hi
 ·have:=(List.getElem?_eq_some_iff.1 hj).1
  rw[hl] at this; simp at this
 ·have hg:W.heap[g]? = some (.cells cur t (0,0)):=hg
  refine⟨_,rfl,(Array.getElem?_eq_some_iff.1 hg).1,?_⟩
  rw[add_lit,cell_of_row W g _ cur t (0,0) hg]
  rw[← h4,List.getElem?_take] at hj
  split at hj
  ·rw[List.getElem?_drop] at hj; simpa using hj
  ·cases hj
theorem Rep.few {E:Env} {F F':List (Nat × SV)} {H:List SO} {a:Act} {W:World} (rep:Rep E { F:=F,H:=H } a W) (m:Nat) (h:leF m F F'):Rep E { F:=F',H:=H } a W :=
 rep.frame_of fun d=>(zj76 h d).imp id fun k=>k.1.symm
def LeV (H:List SO):List SV→List SV→Prop
 | [],[]=>True
 | s :: l,s' :: l'=>(∀ v,Is H s v→Is H s' v)∧LeV H l l'
 | _,_=>False
theorem LeV.is {H:List SO}:∀ {l l':List SV},LeV H l l'→∀ vs,IsL H l vs→IsL H l' vs
 | [],[],_,vs,h=>h
 | s :: l,s' :: l',k,vs,h=>by
  simp only[IsL] at h ⊢
  obtain⟨v,r,h1,h2,h3⟩:=h
  exact⟨v,r,k.1 v h1,LeV.is k.2 r h2,h3⟩
 | [],_ :: _,k,_,_=>k.elim
 | _ :: _,[],k,_,_=>k.elim
end Go.Sx
