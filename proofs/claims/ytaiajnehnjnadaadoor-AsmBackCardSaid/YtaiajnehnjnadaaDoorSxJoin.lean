/- A join: what comes behind a piece of code is shown once, for all of its branches. -/
import Derived.Test.YtaiajnehnjnadaaDoorSxGhost
import Derived.Lib.OthersKept
import Derived.Lib.FrozenHead
set_option linter.unusedSimpArgs false
set_option linter.unusedVariables false
set_option linter.unnecessarySimpa false
namespace Go.Sx
open Go.RowKit
theorem call_at {C:Cx} {E:Env} {d:Option Nat} {f:FuncId} {args:List Operand} {l:List XS} {k:List KI} {s:SS} {vs:List Value} {a:Act} {W:World} (hargs:denL s.H (evL s.F args)=some vs) (rep:Rep E s a W)
  {R:Value→World→Prop} (hc:CallsV C.P f vs W R)
  (next:∀ v W',R v W'→∃ sv H',Is H' sv v∧HExt s.H H'∧HeapOk E H' W'∧G C E (.ops l :: k) { F:=putF s.F d sv,H:=H' }) :
  denK C.tab C.r C.P C.ord E.nt C.Q (.ops ({ dst:=d,guard:=none,i:=.call f args } :: l) :: k) .normal a W:=by
 intro ops ol hol
 obtain⟨q,rest,rfl,ho,hl⟩:=zj0h hol
 obtain⟨op,rfl,hd,hdst,hg,hi⟩:=zj0p ho rfl
 obtain⟨c,hop,hcal,hargs',hok⟩:=zj39 hi
 have hn:=zj1a hi (by simp)
 have hw:=zj0n hg a
 show stepS C.r C.P ops _ op _ a W
 unfold stepS
 rw[if_pos hw,zj1s hop hn]
 refine⟨fun _ _=>trivial,?_⟩
 have hnd:∀ c',op.op ≠ .defer c':=by intro c' e; rw[hop] at e; cases e
 have hvs:(c.args.map a.eval)=vs.toArray:=by
  have:=zj0s _ hargs (rep.evL args)
  rw[← hargs'] at this
  rw[← this,← Array.toList_map,Array.toArray_toList]
 have hrun:(execOp a.eval op).run C.P W=.ok (.enter f vs.toArray) W:=by
  simp only[execOp,hop,resolve,hcal,Act.eval,hvs,Deferred.ofValue,Sem.run_bind,Sem.run_pure,Result.andThen_ok,invoke,Array.append_empty,Array.empty_append]
  exact zj0c hok _ W
 rw[Oper.semAt_eq _ _ _ hnd,hrun]
 refine⟨fun h=>by simp[WF,Fence.wide] at h,?_⟩
 refine zj0r.2 ?_
 refine Calls.mono hc fun e W' he=>?_
 cases e with
 | returned v =>
  obtain⟨sv,H',h1,h2,h3,h4⟩:=next v W' he
  have hdst':d=op.dst:=hdst
  have:=h4 (a.put op.dst v) W' (by rw[← hdst']; exact (rep.ext h2 h3).put (fun m hm=>hd m (by rw[← hdst']; exact hm)) h1)
  exact this ops rest hl
 | panicked ch=>exact he.elim
 | outgrown=>exact he.elim
def BR:Option (Nat × Obj)→SO
 | none=>.gone 0
 | some (g,o)=>.obj g o
@[simp] theorem scpO_BR (m:Nat) (r:Option (Nat × Obj)):scpO m (BR r)=true:=by
 cases r with
 | none=>rfl
 | some q=>obtain⟨g,o⟩:=q; rfl
@[simp] theorem renO_BR (σ:List Nat) (r:Option (Nat × Obj)):renO σ (BR r)=BR r:=by
 cases r with
 | none=>rfl
 | some q=>obtain⟨g,o⟩:=q; rfl
theorem Rep.toBld {E:Env} {F:List (Nat × SV)} {H:List SO} {a:Act} {W:World} (rep:Rep E { F:=F,H:=H } a W) (i:Nat) {g:Nat} {T:TypeId} {p v:Value} (hi:nth H i=some (.cells g T [.val p,.val v])) :
  Rep E { F:=F,H:=setn H i (.obj g (.cells #[p,v] T (0,0)))++[BR none] } a W:=by
 have x:HExt H (setn H i (.obj g (.cells #[p,v] T (0,0)))):=HExt.setBlk hi rfl rfl
 have r1:Rep E { F:=F,H:=setn H i (.obj g (.cells #[p,v] T (0,0))) } a W:=rep.ext x (rep.heap.set hi x (fun g' hg=>.inl hg) (fun _ _ _=>rfl) (Nat.le_refl _) rfl rfl rfl (by
  obtain⟨c,hc,hL⟩:=rep.heap.ents i _ hi
  show W.heap[g]? = _
  have h2:c.toList=[p,v]:=zj0s (H:=H) [.val p,.val v] rfl hL
  have h3:c=#[p,v]:=by rw[← Array.toList_inj]; exact h2
  rw[show W.heap[g]? = some (Obj.cells c T (0,0)) from hc,h3]))
 refine r1.ext (HExt.push _ _) ?_
 have hh:=r1.heap
 generalize setn H i (.obj g (.cells #[p,v] T (0,0)))=H1 at hh
 have hcase:∀ j en,nth (H1++[BR none]) j=some en→nth H1 j=some en∨en=BR none:=fun j en hj=>by
  rw[nth_eq] at hj ⊢
  by_cases h1:j < H1.length
  ·rw[List.getElem?_append_left h1] at hj; exact .inl hj
  ·rw[List.getElem?_append_right (by omega)] at hj
   by_cases h2:j - H1.length=0
   ·rw[h2] at hj; simp at hj; exact .inr hj.symm
   ·rw[List.getElem?_eq_none (by simp; omega)] at hj; cases hj
 refine⟨hh.keep,hh.floor,fun j en hj=>?_,fun j en g' hj hf=>?_,fun j j' en en' g' hne hj hj' hf=>?_⟩
 ·rcases hcase j en hj with h | rfl
  ·exact EntryOk.mono (HExt.push _ _) (fun _ _=>rfl) (hh.ents j en h)
  ·exact trivial
 ·rcases hcase j en hj with h | rfl
  ·exact hh.fresh j en g' h hf
  ·cases hf
 ·rcases hcase j en hj with h | rfl
  ·rcases hcase j' en' hj' with h' | rfl
   ·exact hh.dist j j' en en' g' hne h h' hf
   ·intro hf'; cases hf'
  ·cases hf
structure BOk (T e:TypeId) (gb:Nat) (p v:Value) (r:Option (Nat × Obj)) (bs:List Value):Prop where
 p:p=.pointer none∨p=.pointer (some ⟨gb,0,none⟩)
 row:(r=none∧v=.slice none 0 0∧bs=[])∨∃ g cap cur fz,r=some (g,.cells cur e fz)∧g ≠ gb∧v=.slice (some ⟨g,0,none⟩) bs.length cap∧fz.2≤bs.length*1∧bs.length≤cap∧cap≤maxLen∧cur.size=cap*1∧cur.toList.take (bs.length*1)=bs
theorem BOk.new (T e:TypeId) (gb:Nat):BOk T e gb (.pointer none) (.slice none 0 0) none []:=⟨.inl rfl,.inl ⟨rfl,rfl,rfl⟩⟩
theorem BOk.is {T e:TypeId} {gb N:Nat} {p v:Value} {r:Option (Nat × Obj)} {bs:List Value} {W:World} (h:BOk T e gb p v r bs) (hN:N≤gb) (hb:W.heap[gb]? = some (.cells #[p,v] T (0,0))) (hr:∀ g o,r=some (g,o)→W.heap[g]? = some o∧N≤g):Lib.IsBuilderF T e N gb bs W:=by
 have key:Lib.BuilderAtF T e N gb p bs W:=by
  rcases h.row with⟨rfl,rfl,rfl⟩ | ⟨g,cap,cur,fz,rfl,hg,rfl,h1,h2,h3,h4,h5⟩
  ·exact⟨hN,_,hb,⟨rfl,.inl ⟨rfl,rfl⟩⟩,by simp[Value.ownBlock]⟩
  ·obtain⟨k1,k2⟩:=hr g _ rfl
   exact⟨hN,_,hb,⟨by simp,.inr ⟨g,cap,cur,fz,rfl,k2,k1,h1,h2,h3,h4,h5⟩⟩,by simpa [Value.ownBlock] using hg⟩
 rcases h.p with rfl | rfl
 ·exact .inl key
 ·exact .inr key
theorem BOk.of {T e:TypeId} {gb N:Nat} {p:Value} {bs:List Value} {W:World} (h:Lib.BuilderAtF T e N gb p bs W) (hp:p=.pointer none∨p=.pointer (some ⟨gb,0,none⟩)):∃ v r,BOk T e gb p v r bs∧W.heap[gb]? = some (.cells #[p,v] T (0,0))∧∀ g o,r=some (g,o)→W.heap[g]? = some o∧N≤g:=by
 obtain⟨_,v,hb,⟨hl,⟨rfl,h0⟩ | ⟨g,cap,cur,fz,rfl,k2,k1,h1,h2,h3,h4,h5⟩⟩,hne⟩:=h
 ·have:bs=[]:=List.eq_nil_of_length_eq_zero h0
  subst this
  exact⟨_,none,⟨hp,.inl ⟨rfl,rfl,rfl⟩⟩,hb,fun g o h=>by cases h⟩
 ·exact⟨_,some (g,.cells cur e fz),⟨hp,.inr ⟨g,cap,cur,fz,rfl,by simpa [Value.ownBlock] using hne,rfl,h1,h2,h3,h4,h5⟩⟩,hb,fun g' o' h=>by
   injection h with h; injection h with h1 h2; subst h1; subst h2; exact⟨k1,k2⟩⟩
def notT (e:TypeId):SO→Bool
 | .cells _ t _ | .row _ t _ | .frz _ t _=>t != e
 | .own ..=>false
 | .obj _ (.cells _ t _)=>t != e
 | _=>true
theorem notT_spec {e:TypeId} {H:List SO} {h:Nat→Option Obj} {en:SO} (hn:notT e en=true) (hk:EntryOk H h en) {g:Nat} (hf:en.fp=some g):∃ o,h g=some o∧∀ c fz,o ≠ .cells c e fz:=by
 cases en with
 | cells g' t l =>
  obtain⟨c,hc,_⟩:=hk
  injection hf with hf; subst hf
  refine⟨_,hc,fun c fz he=>?_⟩
  injection he with _ h2 _
  simp[notT,h2] at hn
 | row g' t xs =>
  injection hf with hf; subst hf
  refine⟨_,hk,fun c fz he=>?_⟩
  injection he with _ h2 _
  simp[notT,h2] at hn
 | own t ver sz A n c xs=>simp[notT] at hn
 | map g' l =>
  obtain⟨es,ck,hc,_⟩:=hk
  injection hf with hf; subst hf
  exact⟨_,hc,fun c fz he=>by cases he⟩
 | obj g' o =>
  injection hf with hf; subst hf
  refine⟨_,hk,fun c fz he=>?_⟩
  subst he
  simp[notT] at hn
 | gone g'=>cases hf
 | frz g' t xs =>
  obtain⟨cur,z,hc,_⟩:=hk
  injection hf with hf; subst hf
  refine⟨_,hc,fun c fz he=>?_⟩
  injection he with _ h2 _
  simp[notT,h2] at hn
theorem Rep.drop1 {E:Env} {F:List (Nat × SV)} {H1:List SO} {y:SO} {a:Act} {W:World} (rep:Rep E { F:=F,H:=H1++[y] } a W) (hF:leF H1.length F F) (hH:H1.all (scpO H1.length)=true):Rep E { F:=F,H:=H1 } a W:=rep.le hF (by
 have key:∀ (A B:List SO) (m:Nat),(∀ en ∈ A,scpO m en=true)→leH m (A++B) A:=by
  intro A B m
  induction A with
  | nil=>intro _; cases B <;> exact trivial
  | cons x A ih=>intro h; exact⟨⟨rfl,h x (by simp)⟩,ih fun en he=>h en (by simp[he])⟩
 exact key H1 [y] H1.length (List.all_eq_true.1 hH))
theorem HeapOk.drop1 {E:Env} {H1:List SO} {y:SO} {W:World} (h:HeapOk E (H1++[y]) W) (hH:H1.all (scpO H1.length)=true):HeapOk E H1 W:=h.pre (List.all_eq_true.1 hH)
theorem Rep.fr {E:Env} {F F':List (Nat × SV)} {H:List SO} {a:Act} {W:World} (rep:Rep E { F:=F,H:=H } a W) (hF:leF 1000 F F'):Rep E { F:=F',H:=H } a W:=⟨rep.size,fun d=>by
 rcases zj4w hF d with h | ⟨h,_⟩
 ·show Is _ (lk F' d) _
  rw[h]; simp[Is]
 ·have:=rep.frame d
  show Is _ (lk F' d) _
  rw[← h]; exact this,rep.defers,rep.heap⟩
theorem G.fr {C:Cx} {E:Env} {k:List KI} {F:List (Nat × SV)} {H:List SO} (F':List (Nat × SV)) (h:G C E k { F:=F',H:=H }) (hF:leF 1000 F F'):G C E k { F:=F,H:=H }:=fun a W rep=>h a W (rep.fr hF)
theorem zj3l {C:Cx} {E:Env} {d:Option Nat} {f:FuncId} {args:List Operand} {l:List XS} {k:List KI} {F:List (Nat × SV)} (H1:List SO) (y:SO) {vs:List Value} (hF:leF H1.length F F) (hH:H1.all (scpO H1.length)=true) (hargs:denL H1 (evL F args)=some vs)
  {R:Value→World→Prop} (hc:∀ W,HeapOk E (H1++[y]) W→CallsV C.P f vs W R)
  (next:∀ v W',R v W'→∃ sv H',Is H' sv v∧HExt H1 H'∧HeapOk E H' W'∧G C E (.ops l :: k) { F:=putF F d sv,H:=H' }) :
  G C E (.ops ({ dst:=d,guard:=none,i:=.call f args } :: l) :: k) { F:=F,H:=H1++[y] }:=fun _ W rep =>
 call_at (s:={ F:=F,H:=H1 }) hargs (rep.drop1 hF hH) (hc W rep.heap) next
theorem callv_at {C:Cx} {E:Env} {d:Option Nat} {x:Operand} {f:FuncId} {fst caps:List Value} {args:List Operand} {l:List XS} {k:List KI} {s:SS} {vs:List Value} {a:Act} {W:World} (hx:den s.H (ev s.F x)=some (.func (.func f) fst.toArray caps.toArray)) (hok:fnOk C.P f=true)
  (hargs:denL s.H (evL s.F args)=some vs) (rep:Rep E s a W) {R:Value→World→Prop} (hc:CallsV C.P f (fst++vs++caps) W R)
  (next:∀ v W',R v W'→∃ sv H',Is H' sv v∧HExt s.H H'∧HeapOk E H' W'∧G C E (.ops l :: k) { F:=putF s.F d sv,H:=H' }) :
  denK C.tab C.r C.P C.ord E.nt C.Q (.ops ({ dst:=d,guard:=none,i:=.callv x args } :: l) :: k) .normal a W:=by
 intro ops ol hol
 obtain⟨q,rest,rfl,ho,hl⟩:=zj0h hol
 obtain⟨op,rfl,hd,hdst,hg,hi⟩:=zj0p ho rfl
 obtain⟨c,hop,hcal,hargs'⟩:=zj27 hi
 have hn:=zj1a hi (by simp)
 have hw:=zj0n hg a
 show stepS C.r C.P ops _ op _ a W
 unfold stepS
 rw[if_pos hw,zj1s hop hn]
 refine⟨fun _ _=>trivial,?_⟩
 have hnd:∀ c',op.op ≠ .defer c':=by intro c' e; rw[hop] at e; cases e
 have hvs:(c.args.map a.eval)=vs.toArray:=by
  have:=zj0s _ hargs (rep.evL args)
  rw[← hargs'] at this
  rw[← this,← Array.toList_map,Array.toArray_toList]
 have hfv:a.eval x=.func (.func f) fst.toArray caps.toArray:=den_is _ hx (rep.ev x)
 have hrun:(execOp a.eval op).run C.P W=.ok (.enter f (fst++vs++caps).toArray) W:=by
  simp only[execOp,hop,resolve,hcal,hfv,hvs,Deferred.ofValue,Sem.run_bind,Sem.run_pure,Result.andThen_ok,invoke]
  have e:fst.toArray++vs.toArray++caps.toArray=(fst++vs++caps).toArray:=by simp
  first | (rw[e]; exact zj0c hok _ W) | (simp only[List.append_toArray]; exact zj0c hok _ W)
 rw[Oper.semAt_eq _ _ _ hnd,hrun]
 refine⟨fun h=>by simp[WF,Fence.wide] at h,?_⟩
 refine zj0r.2 ?_
 refine Calls.mono hc fun e W' he=>?_
 cases e with
 | returned v =>
  obtain⟨sv,H',h1,h2,h3,h4⟩:=next v W' he
  have hdst':d=op.dst:=hdst
  have:=h4 (a.put op.dst v) W' (by rw[← hdst']; exact (rep.ext h2 h3).put (fun m hm=>hd m (by rw[← hdst']; exact hm)) h1)
  exact this ops rest hl
 | panicked ch=>exact he.elim
 | outgrown=>exact he.elim
theorem zj4a {C:Cx} {E:Env} {d:Option Nat} {x:Operand} {f:FuncId} {fst caps:List Value} {args:List Operand} {l:List XS} {k:List KI} {F:List (Nat × SV)} (H1:List SO) (y:SO) {vs:List Value} (hF:leF H1.length F F) (hH:H1.all (scpO H1.length)=true) (hx:den H1 (ev F x)=some (.func (.func f) fst.toArray caps.toArray)) (hok:fnOk C.P f=true)
  (hargs:denL H1 (evL F args)=some vs) {R:Value→World→Prop} (hc:∀ W,HeapOk E (H1++[y]) W→CallsV C.P f (fst++vs++caps) W R)
  (next:∀ v W',R v W'→∃ sv H',Is H' sv v∧HExt H1 H'∧HeapOk E H' W'∧G C E (.ops l :: k) { F:=putF F d sv,H:=H' }) :
  G C E (.ops ({ dst:=d,guard:=none,i:=.callv x args } :: l) :: k) { F:=F,H:=H1++[y] }:=fun _ W rep =>
 callv_at (s:={ F:=F,H:=H1 }) hx hok hargs (rep.drop1 hF hH) (hc W rep.heap) next
def bldH (H1:List SO) (i gb:Nat) (T:TypeId) (p v:Value) (r:Option (Nat × Obj)):List SO:=setn H1 i (.obj gb (.cells #[p,v] T (0,0)))++[BR r]
theorem zj4b {H1:List SO} {i gb:Nat} {T:TypeId} {p v p' v':Value} {r':Option (Nat × Obj)} (hi:nth H1 i=some (.obj gb (.cells #[p,v] T (0,0)))):HExt H1 (bldH H1 i gb T p' v' r'):=HExt.trans' (HExt.setBlk (g:=gb) hi rfl rfl) (HExt.push _ _)
theorem bld_is {E:Env} {H1:List SO} {i:Nat} {T e:TypeId} {gb:Nat} {p v:Value} {r:Option (Nat × Obj)} {bs:List Value} {W:World} (hst:E.stolen=[]) (hi:nth H1 i=some (.obj gb (.cells #[p,v] T (0,0)))) (hb:BOk T e gb p v r bs) (hW:HeapOk E (H1++[BR r]) W):Lib.IsBuilderF T e E.N gb bs W:=by
 have hold:∀ g,¬ E.old g→E.N≤g:=fun g hg=>Nat.le_of_not_lt fun hlt=>hg ⟨hlt,by rw[hst]; simp⟩
 have hiH:nth (H1++[BR r]) i=some (.obj gb (.cells #[p,v] T (0,0))):=zj03 hi
 have hgb:W.heap[gb]? = some (.cells #[p,v] T (0,0)):=hW.ents i _ hiH
 have hNb:E.N≤gb:=hold gb (hW.fresh i _ gb hiH rfl).2
 refine hb.is hNb hgb ?_
 rintro g o rfl
 have hj:nth (H1++[BR (some (g,o))]) H1.length=some (.obj g o):=by rw[nth_eq]; simp[BR]
 exact⟨hW.ents _ _ hj,hold g (hW.fresh _ _ g hj rfl).2⟩
theorem bld_heap {E:Env} {H1:List SO} {i:Nat} {T e:TypeId} {gb:Nat} {p v:Value} {r:Option (Nat × Obj)} {bs':List Value} {W W':World} (hst:E.stolen=[]) (hi:nth H1 i=some (.obj gb (.cells #[p,v] T (0,0)))) (hH:H1.all (scpO H1.length)=true) (hn:H1.all (notT e)=true)
  (hW:HeapOk E (H1++[BR r]) W) (hat:Lib.IsBuilderF T e E.N gb bs' W') (hbl:Below E.N W W') (hok:Lib.OthersKept e (some gb) W W'):∃ p' v' r',BOk T e gb p' v' r' bs'∧HeapOk E (bldH H1 i gb T p' v' r') W':=by
 have hh:HeapOk E H1 W:=hW.drop1 hH
 have hil:=nth_lt hi
 obtain⟨p',v',r',hb',hgb',hr'⟩:∃ p' v' r',BOk T e gb p' v' r' bs'∧W'.heap[gb]? = some (.cells #[p',v'] T (0,0))∧∀ g o,r'=some (g,o)→W'.heap[g]? = some o∧E.N≤g:=by
  rcases hat with h | h
  ·obtain⟨v',r',h⟩:=BOk.of h (.inl rfl); exact⟨_,v',r',h⟩
  ·obtain⟨v',r',h⟩:=BOk.of h (.inr rfl); exact⟨_,v',r',h⟩
 have hx:=zj4b (p':=p') (v':=v') (r':=r') hi
 refine⟨p',v',r',hb',?_⟩
 unfold bldH at hx ⊢
 have hlen:(setn H1 i (.obj gb (.cells #[p',v'] T (0,0)))).length=H1.length:=by rw[zj1j,List.length_set]
 -- the entries
 have hcase:∀ j en,nth (setn H1 i (.obj gb (.cells #[p',v'] T (0,0)))++[BR r']) j=some en→(j=i∧en=.obj gb (.cells #[p',v'] T (0,0)))∨(j ≠ i∧j < H1.length∧nth H1 j=some en)∨(j=H1.length∧en=BR r'):=by
  intro j en hj
  by_cases h1:j < H1.length
  ·have hj':nth (setn H1 i (.obj gb (.cells #[p',v'] T (0,0)))) j=some en:=by
    rw[nth_eq] at hj ⊢
    rw[List.getElem?_append_left (by omega)] at hj; exact hj
   by_cases h2:i=j
   ·subst h2
    rw[zj0a _ hil] at hj'
    injection hj' with hj'
    exact .inl ⟨rfl,hj'.symm⟩
   ·rw[zj07 _ h2] at hj'
    exact .inr (.inl ⟨fun h=>h2 h.symm,h1,hj'⟩)
  ·rw[nth_eq,List.getElem?_append_right (by omega),hlen] at hj
   by_cases h2:j - H1.length=0
   ·rw[h2] at hj
    simp at hj
    exact .inr (.inr ⟨by omega,hj.symm⟩)
   ·rw[List.getElem?_eq_none (by simp; omega)] at hj
    cases hj
 have hsame:∀ j en g,j ≠ i→nth H1 j=some en→en.fp=some g→W'.heap[g]? = W.heap[g]? ∧ ∀ c fz,W'.heap[g]? ≠ some (.cells c e fz):=by
  intro j en g hji hj hf
  have hne:notT e en=true:=List.all_eq_true.1 hn en (by rw[nth_eq] at hj; exact List.mem_of_getElem? hj)
  obtain⟨o,ho,hno⟩:=notT_spec hne (hh.ents j en hj) hf
  have ho:W.heap[g]? = some o:=ho
  have hgg:g ≠ gb:=fun he=>hh.dist j i en _ g hji hj hi hf (by rw[he]; rfl)
  have:=hok g o ho (fun h=>hgg (by injection h)) hno
  exact⟨this.trans ho.symm,fun c fz h=>by rw[this] at h; injection h with h; exact hno c fz h⟩
 refine⟨?_,Nat.le_trans hh.floor hbl.size,?_,?_,?_⟩
 ·exact hh.keep.trans ⟨hbl.os,hbl.tape,hbl.output,hbl.size,fun j hj=>hbl.block j hj.1⟩
 ·intro j en hj
  rcases hcase j en hj with⟨_,rfl⟩ | ⟨h1,h2,h3⟩ | ⟨_,rfl⟩
  ·exact hgb'
  ·exact EntryOk.mono hx (fun g hg=>(hsame j en g h1 h3 hg).1) (hh.ents j en h3)
  ·cases r' with
   | none=>exact trivial
   | some q=>obtain⟨g,o⟩:=q; exact (hr' g o rfl).1
 ·intro j en g hj hf
  rcases hcase j en hj with⟨_,rfl⟩ | ⟨h1,h2,h3⟩ | ⟨_,rfl⟩
  ·injection hf with hf; subst hf
   exact⟨(Array.getElem?_eq_some_iff.1 hgb').1,(hh.fresh i _ _ hi rfl).2⟩
  ·have:=hh.fresh j en g h3 hf
   exact⟨Nat.lt_of_lt_of_le this.1 hbl.size,this.2⟩
  ·cases r' with
   | none=>cases hf
   | some q =>
    obtain⟨g',o⟩:=q
    injection hf with hf; subst hf
    obtain⟨k1,k2⟩:=hr' g' o rfl
    exact⟨(Array.getElem?_eq_some_iff.1 k1).1,fun ho=>absurd ho.1 (by omega)⟩
 ·have last:∀ j en g,j ≠ H1.length→nth (setn H1 i (.obj gb (.cells #[p',v'] T (0,0)))++[BR r']) j=some en→en.fp=some g→(BR r').fp ≠ some g:=by
   intro j en g hjl hj hf hbr
   cases hr:r' with
   | none=>rw[hr] at hbr; cases hbr
   | some q =>
    obtain⟨g',o⟩:=q
    rw[hr] at hbr
    injection hbr with hbr; subst hbr
    obtain⟨k1,_⟩:=hr' g' o hr
    rcases hb'.row with⟨h0,_⟩ | ⟨g2,cap,cur,fz,h0,hg2,_⟩
    ·rw[hr] at h0; cases h0
    ·rw[hr] at h0; injection h0 with h0; injection h0 with h01 h02
     subst h01; subst h02
     rcases hcase j en hj with⟨_,rfl⟩ | ⟨h1,h2,h3⟩ | ⟨h1,_⟩
     ·injection hf with hf; exact hg2 hf.symm
     ·exact (hsame j en _ h1 h3 hf).2 _ _ k1
     ·exact hjl h1
  intro j j' en en' g hne hj hj' hf
  rcases hcase j en hj with⟨h1,rfl⟩ | ⟨h1,h2,h3⟩ | ⟨h1,rfl⟩
  ·rcases hcase j' en' hj' with⟨q1,_⟩ | ⟨q1,q2,q3⟩ | ⟨q1,rfl⟩
   ·exact absurd (h1.trans q1.symm) hne
   ·injection hf with hf; subst hf
    exact hh.dist i j' _ en' _ (fun h=>q1 h.symm) hi q3 rfl
   ·exact last j _ g (by rw[h1]; omega) hj hf
  ·rcases hcase j' en' hj' with⟨q1,rfl⟩ | ⟨q1,q2,q3⟩ | ⟨q1,rfl⟩
   ·intro hf'
    injection hf' with hf'; subst hf'
    exact hh.dist j i en _ _ h1 h3 hi hf rfl
   ·exact hh.dist j j' en en' g hne h3 q3 hf
   ·exact last j en g (by omega) hj hf
  ·intro hf'
   exact last j' en' g (by rw[h1] at hne; exact fun h=>hne h.symm) hj' hf' hf
end Go.Sx
