/- The engine: rules for what is looked at again behind a turn of the world, and for operations in more than one order. -/
import Derived.Test.YtgghmmjoplddbaaGreatDoorSxLib
set_option linter.unusedSimpArgs false
set_option linter.unusedVariables false
set_option linter.unnecessarySimpa false
namespace Go.Sx
section
variable {C:Cx} {E:Env}
def Det (H:List SO) (sv:SV):Prop:=∀ u v,Is H sv u→Is H sv v→u=v
theorem zj62 {s:SS} {a:Act} {W:World} {ops:Array Oper} {o:Oper} {d:Nat} {x:XK} (rep:Rep E s a W) (hd:o.dst=some d) (hi:cmpK C.P o.op=some x) (hr:readK x=true)
  (hx:xk E s (fun sv _=>sv=lk s.F d∧Det s.H sv) x):StillAt C.P ops o a W:=by
 intro hw d' hd' W2 hg
 rw[hd] at hd'; injection hd' with hd'; subst hd'
 have h:=zj72 hi rep hx
 have hnp:pureK x=false:=by cases x <;> first | rfl | (simp[readK] at hr)
 unfold ResK at h
 rw[if_neg (by simp[hnp]),if_pos hr] at h
 obtain⟨v,sv,h1,⟨rfl,h2⟩,h3⟩:=h
 rw[h1 W2 hg,h2 _ _ h3 (rep.frame d)]
theorem still_rule {dst:Option Nat} {d:Nat} {x:XK} {l:List XS} {k:List KI} {s:SS} (hx:xk E s (fun sv _=>sv=lk s.F d∧Det s.H sv) x) (next:G C E (.ops l :: k) s) :
  G C E (.ops ({ dst:=dst,guard:=none,i:=.still d x } :: l) :: k) s:=by
 intro a W rep ops ol hol
 obtain⟨q,rest,rfl,ho,hl⟩:=zj11 hol
 obtain⟨op,rfl,hd,hlt,hdst,hg,hi,hr⟩:=zj3s ho rfl
 exact⟨zj62 rep hd hi hr hx,next a W rep ops rest hl⟩
def GT (C:Cx) (E:Env) (k:List KI) (t:XT) (s:SS):Prop :=
 ∀ a W,Rep E s a W→∀ ops rt,cmpT C.P E.nt ops rt=some t→wpR C.r C.P ops (denK C.tab C.r C.P C.ord E.nt C.Q k) rt a W
variable {k:List KI} {t:XT} {s:SS}
theorem GT_done (h:G C E k s):GT C E k .done s:=by
 intro a W rep ops rt hc
 cases rt with
 | done=>exact h a W rep
 | seq q j t=>simp only[cmpT] at hc; split at hc <;> simp at hc
 | alt x y=>simp only[cmpT] at hc; split at hc <;> simp at hc
theorem GT_alt {x y:XT} (hx:GT C E k x s) (hy:GT C E k y s):GT C E k (.alt x y) s:=by
 intro a W rep ops rt hc
 cases rt with
 | done=>simp[cmpT] at hc
 | seq q j t=>simp only[cmpT] at hc; split at hc <;> simp at hc
 | alt p q =>
  simp only[cmpT] at hc
  split at hc
  case h_2=>cases hc
  rename_i xt yt hp hq
  injection hc with hc; injection hc with e1 e2; subst e1; subst e2
  exact⟨hx a W rep ops p hp,hy a W rep ops q hq⟩
theorem GT_seq {x:XS} {j:Nat} (h:∀ a W,Rep E s a W→∀ ops q rt,cmpO C.P E.nt ops q=some x→cmpT C.P E.nt ops rt=some t→wpR C.r C.P ops (denK C.tab C.r C.P C.ord E.nt C.Q k) (.seq q j rt) a W):GT C E k (.seq x j t) s:=by
 intro a W rep ops rt hc
 cases rt with
 | done=>simp[cmpT] at hc
 | alt p q=>simp only[cmpT] at hc; split at hc <;> simp at hc
 | seq q j2 t2 =>
  simp only[cmpT] at hc
  split at hc
  case h_2=>cases hc
  rename_i x' t' ho hl
  injection hc with hc; injection hc with e1 e2 e3; subst e1; subst e2; subst e3
  exact h a W rep ops q t2 ho hl
theorem GT_still {dst:Option Nat} {d:Nat} {x:XK} {j:Nat} (hx:xk E s (fun sv _=>sv=lk s.F d∧Det s.H sv) x) (h:GT C E k t s):GT C E k (.seq { dst:=dst,guard:=none,i:=.still d x } j t) s:=by
 refine GT_seq fun a W rep ops q rt ho hl=>?_
 obtain⟨op,rfl,hd,hlt,hdst,hg,hi,hr⟩:=zj3s ho rfl
 exact⟨zj62 rep hd hi hr hx,h a W rep ops rt hl⟩
theorem alt_rule {n:Nat} (hord:∀ k,OrdOk C.r C.P C.ord (denK C.tab C.r C.P C.ord E.nt C.Q k)) (h:GT C E k t s):G C E (.code (.alt n t) :: k) s:=by
 intro a W rep m c hc
 rw[expand_alt] at hc
 obtain⟨id,ops,T,rt,rfl,ho,hp,hl⟩:=cmp_alt hc
 exact (hord k).tree id ops T rt a W ho hp fun W' e1 e2 e3 e4=>h a W' ⟨rep.size,rep.frame,rep.defers,rep.heap.drawn e1 e2 e3 e4⟩ ops rt hl
end
theorem zj63 {C:Cx} {E:Env} {d:Option Nat} {x:Operand} {f:FuncId} {fst caps:List Value} {args:List Operand} {l:List XS} {k:List KI} {s:SS} {vs:List Value} (hx:den s.H (ev s.F x)=some (.func (.func f) fst.toArray caps.toArray)) (hok:fnOk C.P f=true)
  (hargs:denL s.H (evL s.F args)=some vs) {R:World→Value→World→Prop} (hc:∀ W,HeapOk E s.H W→CallsV C.P f (fst++vs++caps) W (R W))
  (next:∀ W v W',HeapOk E s.H W→R W v W'→∃ sv H',Is H' sv v∧HExt s.H H'∧HeapOk E H' W'∧G C E (.ops l :: k) { F:=putF s.F d sv,H:=H' }) :
  G C E (.ops ({ dst:=d,guard:=none,i:=.callv x args } :: l) :: k) s:=by
 intro a W rep ops ol hol
 obtain⟨q,rest,rfl,ho,hl⟩:=zj11 hol
 obtain⟨op,rfl,hd,hdst,hg,hi⟩:=zj10 ho rfl
 obtain⟨c,hop,hcal,hargs'⟩:=zj3v hi
 have hn:=zj28 hi (by simp)
 have hw:=zj0r hg a
 show stepS C.r C.P ops _ op _ a W
 unfold stepS
 rw[if_pos hw,zj32 hop hn]
 refine⟨fun _ _=>trivial,?_⟩
 have hnd:∀ c',op.op ≠ .defer c':=by intro c' e; rw[hop] at e; cases e
 have hvs:(c.args.map a.eval)=vs.toArray:=by
  have:=zj0t _ hargs (rep.evL args)
  rw[← hargs'] at this
  rw[← this,← Array.toList_map,Array.toArray_toList]
 have hfv:a.eval x=.func (.func f) fst.toArray caps.toArray:=den_is _ hx (rep.ev x)
 have hrun:(execOp a.eval op).run C.P W=.ok (.enter f (fst++vs++caps).toArray) W:=by
  simp only[execOp,hop,resolve,hcal,hfv,hvs,Deferred.ofValue,Sem.run_bind,Sem.run_pure,Result.andThen_ok,invoke]
  have e:fst.toArray++vs.toArray++caps.toArray=(fst++vs++caps).toArray:=by simp
  first | (rw[e]; exact zj0q hok _ W) | (simp only[List.append_toArray]; exact zj0q hok _ W)
 rw[Oper.semAt_eq _ _ _ hnd,hrun]
 refine⟨fun h=>by simp[WF,Fence.wide] at h,?_⟩
 refine zj15.2 ?_
 refine Calls.mono (hc W rep.heap) fun e W' he=>?_
 cases e with
 | returned v =>
  obtain⟨sv,H',h1,h2,h3,h4⟩:=next W v W' rep.heap he
  have hdst':d=op.dst:=hdst
  have:=h4 (a.put op.dst v) W' (by rw[← hdst']; exact (rep.ext h2 h3).put (fun m hm=>hd m (by rw[← hdst']; exact hm)) h1)
  exact this ops rest hl
 | panicked ch=>exact he.elim
 | outgrown=>exact he.elim
theorem zj07 {C:Cx} {E:Env} {d:Option Nat} {x:Operand} {f:FuncId} {fst caps:List Value} {args:List Operand} {l:List XS} {k:List KI} {s:SS} {vs:List Value} (hx:den s.H (ev s.F x)=some (.func (.func f) fst.toArray caps.toArray)) (hok:fnOk C.P f=true)
  (hargs:denL s.H (evL s.F args)=some vs) {R:Value→Prop} (hc:∀ W,HeapOk E s.H W→CallsV C.P f (fst++vs++caps) W fun v W'=>R v∧Fresh W W')
  (next:∀ v,R v→∃ sv,Is s.H sv v∧G C E (.ops l :: k) { F:=putF s.F d sv,H:=s.H }) :
  G C E (.ops ({ dst:=d,guard:=none,i:=.callv x args } :: l) :: k) s:=by
 refine zj63 hx hok hargs (R:=fun W v W'=>R v∧Fresh W W') hc fun W v W' hW hr=>?_
 obtain⟨sv,h1,h2⟩:=next v hr.1
 exact⟨sv,s.H,h1,HExt.refl _,hW.freshK hr.2,h2⟩
theorem zj06 {H:List SO} {sv:SV} {u:Value} (h:den H sv=some u):Det H sv:=fun a b ha hb=>(den_is _ h ha).trans (den_is _ h hb).symm
theorem zj1f {C:Cx} {E:Env} {dst:Option Nat} {d:Nat} {x:XK} {l:List XS} {k:List KI} {F:List (Nat × SV)} {H:List SO} (hx:yk E F H (fun sv _=>sv=lk F d∧Det H sv) x) (next:G C E (.ops l :: k) { F:=F,H:=H }) :
  G C E (.ops ({ dst:=dst,guard:=none,i:=.still d x } :: l) :: k) { F:=F,H:=H } :=
 still_rule (s:={ F:=F,H:=H }) (yk_xk (s:={ F:=F,H:=H }) hx) next
inductive RV where
 | tmp (t:Nat)
 | cell (t n:Nat) (agg:Bool)
def rvOf (P:Program):List ResultVar→Option (List RV)
 | []=>some []
 | .tmp t :: l=>match rvOf P l with | some r=>some (.tmp t :: r) | none=>none
 | .cell t ty :: l=>match P.underlying ty,szT P ty,rvOf P l with
  | some _,some n,some r=>some (.cell t n (isAggT P ty) :: r)
  | _,_,_=>none
def oneV:Bool→List Value→Option Value
 | true,us=>some (.agg us.toArray)
 | false,[u]=>some u
 | _,_=>none
def cellV (H:List SO) (n:Nat) (agg:Bool):SV→Option Value
 | .ptr i off=>match nth H i with
  | some (.cells _ _ c)=>(match takeL n (dropL off c) with
   | some svs=>(match denL H svs with | some us=>oneV agg us | none=>none)
   | none=>none)
  | some (.row _ _ xs)=>(match takeL n (dropL off xs) with | some us=>oneV agg us | none=>none)
  | _=>none
 | _=>none
def denR (H:List SO) (F:List (Nat × SV)):List RV→Option (List Value)
 | []=>some []
 | .tmp t :: l=>match den H (lk F t),denR H F l with | some v,some r=>some (v :: r) | _,_=>none
 | .cell t n agg :: l=>match cellV H n agg (lk F t),denR H F l with | some v,some r=>some (v :: r) | _,_=>none
theorem IsL.dropX {H:List SO}:∀ (n:Nat) {l:List SV} {vs:List Value},IsL H l vs→IsL H (l.drop n) (vs.drop n)
 | 0,_,_,k=>k
 | n+1,[],_,k=>by simp[IsL] at k; subst k; simp[IsL]
 | n+1,s :: l,_,k=>by
  simp only[IsL] at k; obtain⟨v,r,hv,hr,rfl⟩:=k
  exact IsL.dropX n hr
theorem IsL.takeX {H:List SO}:∀ (n:Nat) {l:List SV} {vs:List Value},IsL H l vs→IsL H (l.take n) (vs.take n)
 | 0,_,_,_=>by simp[IsL]
 | n+1,[],_,k=>by simp[IsL] at k; subst k; simp[IsL]
 | n+1,s :: l,_,k=>by
  simp only[IsL] at k; obtain⟨v,r,hv,hr,rfl⟩:=k
  simp only[List.take_succ_cons,IsL]
  exact⟨v,_,hv,IsL.takeX n hr,rfl⟩
theorem zj4k {P:Program} {t:TypeId} {n:Nat} {td:TypeDesc} (hu:P.underlying t=some td) (hz:szT P t=some n) (A:Addr) (us:List Value) (hl:us.length=n) (W2:World) (hc:∀ j u,us[j]? = some u→W2.cell? (A.add j)=some u) {v:Value} (hv:oneV (isAggT P t) us=some v) :
  (loadVar t A).run P W2=.ok v W2:=by
 have hlc:=run_loadCells_list (P:=P) W2 A us hc
 rw[hl] at hlc
 have hu':(P.underlying t).isSome=true:=by rw[hu]; rfl
 cases hg:isAggT P t with
 | true =>
  rw[hg] at hv; simp only[oneV] at hv; injection hv with hv; subst hv
  simp[loadVar,zj1c P t hu',hg,zj0d hz,hlc]
 | false =>
  rw[hg] at hv
  unfold oneV at hv
  split at hv
  ·rename_i e; cases e
  ·rename_i u e
   injection hv with hv; subst hv
   have h0:=hc 0 u rfl
   have:(A.add 0)=A:=by simp[Addr.add]
   rw[this] at h0
   simp[loadVar,zj1c P t hu',hg,run_load,h0]
  ·cases hv
theorem cellV_spec {E:Env} {P:Program} {s:SS} {a:Act} {W:World} (rep:Rep E s a W) {t n:Nat} {ty:TypeId} {td:TypeDesc} (hu:P.underlying ty=some td) (hz:szT P ty=some n) {v:Value} (h:cellV s.H n (isAggT P ty) (lk s.F t)=some v) :
  ∃ A,a.tmps.getD t undef=.pointer (some A)∧(loadVar ty A).run P W=.ok v W:=by
 have hf:=rep.frame t
 unfold cellV at h
 split at h
 case h_2=>cases h
 rename_i i off e
 rw[e] at hf
 simp only[Is] at hf
 obtain⟨g,hb,hp⟩:=hf
 refine⟨_,hp,?_⟩
 split at h
 ·rename_i g' t' c hi
  rw[blk_eq,hi] at hb
  simp only[Option.bind_some,SO.blk,Option.some.injEq] at hb
  subst hb
  split at h
  case h_2=>cases h
  rename_i svs ht
  split at h
  case h_2=>cases h
  rename_i us hus
  obtain⟨cs,hc,hL⟩:=rep.heap.ents i _ hi
  have hc:W.heap[g']? = some (.cells cs t' (0,0)):=hc
  obtain⟨h1,h2,h3⟩:=zj4x _ _ _ ht
  rw[zj4y] at h1
  have hLu:=zj0t _ hus (h1 ▸ ((hL.dropX off).takeX n):IsL s.H svs ((cs.toList.drop off).take n))
  refine zj4k hu hz _ us (by rw[← hLu]; have:=((hL.dropX off).takeX n).length; rw[this,← h1,h2]) W (fun j u hj=>?_) h
  rw[← hLu,List.getElem?_take] at hj
  split at hj
  ·rw[List.getElem?_drop] at hj
   rw[show (Addr.add ⟨g',off,none⟩ j)=(⟨g',0,none⟩:Addr).add (off+j) by simp[Addr.add]; split <;> simp_all,zj57 W g' _ hc]
   simpa using hj
  ·cases hj
 ·rename_i g' t' xs hi
  rw[blk_eq,hi] at hb
  simp only[Option.bind_some,SO.blk,Option.some.injEq] at hb
  subst hb
  split at h
  case h_2=>cases h
  rename_i us ht
  have hc:W.heap[g']? = some (.cells xs.toArray t' (0,0)):=rep.heap.ents i _ hi
  obtain⟨h1,h2,h3⟩:=zj4x _ _ _ ht
  rw[zj4y] at h1
  refine zj4k hu hz _ us h2 W (fun j u hj=>?_) h
  rw[h1,List.getElem?_take] at hj
  split at hj
  ·rw[List.getElem?_drop] at hj
   rw[show (Addr.add ⟨g',off,none⟩ j)=(⟨g',0,none⟩:Addr).add (off+j) by simp[Addr.add]; split <;> simp_all,zj57 W g' _ hc]
   simpa using hj
  ·cases hj
 ·cases h
theorem zj59 {E:Env} {P:Program} {s:SS} {a:Act} {W:World} (rep:Rep E s a W) (g:ResultVar→Sem Value) (hg1:∀ t,g (.tmp t)=pure (a.tmps.getD t undef)) (hg2:∀ t ty,g (.cell t ty)=(do loadVar ty (← asAddr (a.tmps.getD t undef)))) :
  ∀ (l:List ResultVar) (rs:List RV) (vs:List Value),rvOf P l=some rs→denR s.H s.F rs=some vs→(l.mapM g:Sem (List Value)).run P W=.ok vs W
 | [],rs,vs,h,hd=>by simp[rvOf] at h; subst h; simp[denR] at hd; subst hd; rfl
 | .tmp t :: l,rs,vs,h,hd=>by
  simp only[rvOf] at h
  split at h
  case h_2=>cases h
  rename_i r hr
  injection h with h; subst h
  simp only[denR] at hd
  split at hd
  case h_2=>cases hd
  rename_i v r' h1 h2
  injection hd with hd; subst hd
  rw[List.mapM_cons]
  simp only[hg1,Sem.run_bind,Sem.run_pure,Result.andThen_ok,zj59 rep g hg1 hg2 l r r' hr h2,den_is _ h1 (rep.frame t)]
 | .cell t ty :: l,rs,vs,h,hd=>by
  simp only[rvOf] at h
  split at h
  case h_2=>cases h
  rename_i td n r hu hz hr
  injection h with h; subst h
  simp only[denR] at hd
  split at hd
  case h_2=>cases hd
  rename_i v r' h1 h2
  injection hd with hd; subst hd
  obtain⟨A,hp,hrun⟩:=cellV_spec rep hu hz h1
  rw[List.mapM_cons]
  simp only[hg2,hp,asAddr,Sem.run_bind,Sem.run_pure,Result.andThen_ok,hrun,zj59 rep g hg1 hg2 l r r' hr h2]
theorem zj2l {E:Env} {P:Program} {s:SS} {a:Act} {W:World} (rep:Rep E s a W) {fn:Func} {rs:List RV} {vs:List Value} (hr:rvOf P fn.results.toList=some rs) (hv:denR s.H s.F rs=some vs) :
  (results fn a.tmps).run P W=.ok (tupOf vs) W:=by
 unfold results
 have e:fn.results=fn.results.toList.toArray:=by simp
 rw[e,List.mapM_toArray]
 simp only[Sem.run_bind,Sem.run_map]
 rw[zj59 rep _ (fun t=>rfl) (fun t ty=>rfl) _ rs vs hr hv]
 simp only[Result.andThen_ok,Sem.run_pure]
 congr 1
 match vs with
 | []=>simp[tupOf]
 | [v]=>simp[tupOf]
 | v :: u :: l=>simp[tupOf]
theorem ret_rv {P:Program} {fn:Func} {keep:List Nat} {tab:Nat→XC} {R:Value→World→Prop} {E:Env} {s:SS} {rs:List RV} {vs:List Value} (hr:rvOf P fn.results.toList=some rs) (hm:E.marks=[])
  (hv:denR s.H s.F rs=some vs) (h:∀ W,HeapOk E s.H W→R (tupOf vs) W):RetG (cxOf P fn keep tab R) E s:=by
 intro a W rep
 exact⟨by rw[rep.defers,hm]; rfl,_,zj2l rep hr hv,h W rep.heap⟩
theorem HeapOk.cellsAt {E:Env} {H:List SO} {W:World} (h:HeapOk E H W) {i g:Nat} {t:TypeId} {l:List SV} {xs:List Value} (hi:nth H i=some (.cells g t l)) (hx:denL H l=some xs):RowAt W (some ⟨g,0,none⟩) xs:=by
 obtain⟨c,hc,hL⟩:=h.ents i _ hi
 have hc:W.heap[g]? = some (.cells c t (0,0)):=hc
 have e:=zj0t _ hx hL
 intro j u hj
 refine⟨_,rfl,(Array.getElem?_eq_some_iff.1 hc).1,?_⟩
 rw[zj57 W g j hc]
 rw[← e] at hj; simpa using hj
def YT (C:Cx) (E:Env) (n:Nat) (k:List KI):XT→List (Nat × SV)→List SO→Prop
 | .done,F,H=>Y C E n k (normF F C.keep) H
 | .seq ⟨d,none,.k x⟩ _ t,F,H=>yk E F H (fun sv H'=>YT C E n k t (putF F d sv) H') x
 | .seq ⟨_,none,.still d x⟩ _ t,F,H=>yk E F H (fun sv _=>sv=lk F d∧Det H sv) x∧YT C E n k t F H
 | .seq ⟨d,none,.call f args⟩ j t,F,H=>GT C E k (.seq ⟨d,none,.call f args⟩ j t) { F:=F,H:=H }
 | .alt a b,F,H=>YT C E n k a F H∧YT C E n k b F H
 | _,_,_=>False
section
variable {C:Cx} {E:Env} {n:Nat} {k:List KI} {F:List (Nat × SV)} {H:List SO}
theorem YT_done:YT C E n k .done F H=Y C E n k (normF F C.keep) H:=rfl
theorem YT_k (d:Option Nat) (x:XK) (j:Nat) (t:XT):YT C E n k (.seq { dst:=d,guard:=none,i:=.k x } j t) F H=yk E F H (fun sv H'=>YT C E n k t (putF F d sv) H') x:=rfl
theorem YT_still (e:Option Nat) (d:Nat) (x:XK) (j:Nat) (t:XT):YT C E n k (.seq { dst:=e,guard:=none,i:=.still d x } j t) F H=(yk E F H (fun sv _=>sv=lk F d∧Det H sv) x∧YT C E n k t F H):=rfl
theorem YT_call (d:Option Nat) (f:FuncId) (args:List Operand) (j:Nat) (t:XT):YT C E n k (.seq { dst:=d,guard:=none,i:=.call f args } j t) F H=GT C E k (.seq { dst:=d,guard:=none,i:=.call f args } j t) { F:=F,H:=H }:=rfl
theorem YT_alt (a b:XT):YT C E n k (.alt a b) F H=(YT C E n k a F H∧YT C E n k b F H):=rfl
end
theorem GT_k' {C:Cx} {E:Env} {k:List KI} {t:XT} {F:List (Nat × SV)} {H:List SO} {d:Option Nat} {x:XK} {j:Nat} {K:SV→List SO→Prop} (h:yk E F H K x) (hK:∀ sv H',K sv H'→GT C E k t { F:=putF F d sv,H:=H' }):GT C E k (.seq { dst:=d,guard:=none,i:=.k x } j t) { F:=F,H:=H }:=by
 refine GT_seq fun a W rep ops q rt ho hl=>?_
 obtain⟨op,rfl,hd,hdst,hg,hi⟩:=zj10 ho rfl
 have hk:=cmpI_k hi
 refine step_k hk rep (zj72 hk rep (yk_xk (s:={ F:=F,H:=H }) h)) (zj0r hg a) ?_
 intro v W' sv H' hKs hIs hext hheap
 have hdst':d=op.dst:=hdst
 exact hK sv H' hKs (a.put op.dst v) W' (by rw[hdst']; exact (rep.ext hext hheap).put hd hIs) ops rt hl
theorem Y_0 {C:Cx} {E:Env} {k:List KI} {F:List (Nat × SV)} {H:List SO}:Y C E 0 k F H=G C E k { F:=F,H:=H }:=rfl
theorem zj35 {C:Cx} {E:Env} {n:Nat} {k:List KI} (hord:∀ k,OrdOk C.r C.P C.ord (denK C.tab C.r C.P C.ord E.nt C.Q k)):∀ (t:XT) (F:List (Nat × SV)) (H:List SO),YT C E n k t F H→GT C E k t { F:=F,H:=H }
 | .done,F,H,h=>GT_done fun a W rep=>zj0w hord n k _ _ h a W (rep.frame_of fun d=>zj73 _ _ _)
 | .alt a b,F,H,h=>GT_alt (zj35 hord a F H h.1) (zj35 hord b F H h.2)
 | .seq ⟨d,none,.k x⟩ j t,F,H,h=>GT_k' (K:=fun sv H'=>YT C E n k t (putF F d sv) H') h fun sv H' h'=>zj35 hord t _ _ h'
 | .seq ⟨e,none,.still d x⟩ j t,F,H,h=>GT_still (s:={ F:=F,H:=H }) (yk_xk (s:={ F:=F,H:=H }) h.1) (zj35 hord t F H h.2)
 | .seq ⟨_,some _,_⟩ _ _,_,_,h=>by simp only[YT] at h
 | .seq ⟨_,none,.call _ _⟩ _ _,_,_,h=>h
 | .seq ⟨_,none,.callv _ _⟩ _ _,_,_,h=>by simp only[YT] at h
theorem alt_y {C:Cx} {E:Env} (ho:C.ord=zj0p) (hQ:zj0e C.Q) (n:Nat) {m:Nat} {t:XT} {k:List KI} {F:List (Nat × SV)} {H:List SO} (h:YT C E n k t F H):G C E (.code (.alt m t) :: k) { F:=F,H:=H }:=by
 have hord:∀ k,OrdOk C.r C.P C.ord (denK C.tab C.r C.P C.ord E.nt C.Q k):=fun k=>by rw[ho]; exact ordOk (zj13 hQ k)
 exact alt_rule hord (zj35 hord t F H h)
theorem gt_y {C:Cx} {E:Env} (ho:C.ord=zj0p) (hQ:zj0e C.Q) (n:Nat) {t:XT} {k:List KI} {F:List (Nat × SV)} {H:List SO} (h:YT C E n k t F H):GT C E k t { F:=F,H:=H } :=
 zj35 (fun k=>by rw[ho]; exact ordOk (zj13 hQ k)) t F H h
theorem GT_call {C:Cx} {E:Env} {d:Option Nat} {f:FuncId} {args:List Operand} {j:Nat} {t:XT} {k:List KI} {s:SS} {vs:List Value} (hargs:denL s.H (evL s.F args)=some vs)
  {R:World→Value→World→Prop} (hc:∀ W,HeapOk E s.H W→CallsV C.P f vs W (R W))
  (next:∀ W v W',HeapOk E s.H W→R W v W'→∃ sv H',Is H' sv v∧HExt s.H H'∧HeapOk E H' W'∧GT C E k t { F:=putF s.F d sv,H:=H' }) :
  GT C E k (.seq { dst:=d,guard:=none,i:=.call f args } j t) s:=by
 refine GT_seq fun a W rep ops q rt ho hl=>?_
 obtain⟨op,rfl,hd,hdst,hg,hi⟩:=zj10 ho rfl
 obtain⟨c,hop,hcal,hargs',hok⟩:=zj53 hi
 have hn:=zj28 hi (by simp)
 have hw:=zj0r hg a
 show stepS C.r C.P ops _ op _ a W
 unfold stepS
 rw[if_pos hw,zj32 hop hn]
 refine⟨fun _ _=>trivial,?_⟩
 have hnd:∀ c',op.op ≠ .defer c':=by intro c' e; rw[hop] at e; cases e
 have hvs:(c.args.map a.eval)=vs.toArray:=by
  have:=zj0t _ hargs (rep.evL args)
  rw[← hargs'] at this
  rw[← this,← Array.toList_map,Array.toArray_toList]
 have hrun:(execOp a.eval op).run C.P W=.ok (.enter f vs.toArray) W:=by
  simp only[execOp,hop,resolve,hcal,Act.eval,hvs,Deferred.ofValue,Sem.run_bind,Sem.run_pure,Result.andThen_ok,invoke,Array.append_empty,Array.empty_append]
  exact zj0q hok _ W
 rw[Oper.semAt_eq _ _ _ hnd,hrun]
 refine⟨fun h=>by simp[WF,Fence.wide] at h,?_⟩
 refine zj15.2 ?_
 refine Calls.mono (hc W rep.heap) fun e W' he=>?_
 cases e with
 | returned v =>
  obtain⟨sv,H',h1,h2,h3,h4⟩:=next W v W' rep.heap he
  have hdst':d=op.dst:=hdst
  exact h4 (a.put op.dst v) W' (by rw[← hdst']; exact (rep.ext h2 h3).put (fun m hm=>hd m (by rw[← hdst']; exact hm)) h1) ops rt hl
 | panicked ch=>exact he.elim
 | outgrown=>exact he.elim
theorem zj29 {C:Cx} {E:Env} {d:Option Nat} {f:FuncId} {args:List Operand} {j:Nat} {t:XT} {k:List KI} {s:SS} {vs:List Value} (hargs:denL s.H (evL s.F args)=some vs)
  {R:Value→Prop} (hc:∀ W,HeapOk E s.H W→CallsV C.P f vs W fun v W'=>R v∧Fresh W W')
  (next:∀ v,R v→∃ sv,Is s.H sv v∧GT C E k t { F:=putF s.F d sv,H:=s.H }) :
  GT C E k (.seq { dst:=d,guard:=none,i:=.call f args } j t) s:=by
 refine GT_call hargs (R:=fun W v W'=>R v∧Fresh W W') hc fun W v W' hW hr=>?_
 obtain⟨sv,h1,h2⟩:=next v hr.1
 exact⟨sv,s.H,h1,HExt.refl _,hW.freshK hr.2,h2⟩
theorem zj2r {T:Nat→XC} {r:Option Nat} {P:Program} {ord:Order} {nt:Nat} {Q:Post} {lb:_} {a:Act} {W:World}:∀ k,denK T r P ord nt Q k (.goto lb) a W→Q (.goto lb) a W
 | [],h=>h
 | .code _ :: k,h=>zj2r k h
 | .ops _ :: k,h=>zj2r k h
 | .blk _ :: k,h=>zj2r k h
 | .lend _ :: k,h=>zj2r k h
theorem zj36 {C:Cx} {E:Env} {c:XC} {k:List KI} {s:SS} (hg:∀ l a w,¬ C.Q (.goto l) a w) (h:G C E (.code c :: k) s):G C E (.code (.scp c) :: k) s:=by
 intro a W rep n cc hc
 rw[expand_scp] at hc
 obtain⟨c1,rfl,h1⟩:=cmp_scp hc
 exact wpIn_scope (fun l a w q=>hg l a w (zj2r k q)) (h a W rep n c1 h1)
end Go.Sx
