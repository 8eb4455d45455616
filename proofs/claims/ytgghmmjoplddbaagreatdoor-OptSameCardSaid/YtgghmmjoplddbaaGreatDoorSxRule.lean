/- The engine, part 9: how a function's walk begins and ends, calls, loops. -/
import Derived.Test.YtgghmmjoplddbaaGreatDoorSxDraw
set_option linter.unusedSimpArgs false
set_option linter.unusedVariables false
set_option linter.unnecessarySimpa false
namespace Go.Sx
def endPost (P:Program) (fn:Func) (R:Value→World→Prop):Post
 | .normal,a,w | .ret,a,w=>a.defers=[]∧∃ v,(results fn a.tmps).run P w=.ok v w∧R v w
 | _,_,_=>False
theorem zj2c (P:Program) (fn:Func) (R:Value→World→Prop):zj0e (endPost P fn R):=fun _ _ _ h=>h
def CallsV (P:Program) (f:FuncId) (args:List Value) (w:World) (R:Value→World→Prop):Prop :=
 Calls P f args.toArray w fun e w'=>match e with | .returned v=>R v w' | _=>False
theorem CallsV.mono {P:Program} {f:FuncId} {args:List Value} {w:World} {R R':Value→World→Prop} (h:CallsV P f args w R) (hr:∀ v w',R v w'→R' v w'):CallsV P f args w R' :=
 Calls.mono h fun e w' he=>by cases e <;> first | exact hr _ _ he | exact he
def numF:Nat→List SV→List (Nat × SV)
 | _,[]=>[]
 | n,v :: l=>(n,v) :: numF (n+1) l
theorem lk_numF:∀ (l:List SV) (n d:Nat),(d < n→lk (numF n l) d=.unk)∧(∀ s,n≤d→l[d - n]? = some s→lk (numF n l) d=s)∧(n≤d→l[d - n]? = none→lk (numF n l) d=.unk)
 | [],n,d=>⟨fun _=>rfl,fun s _ h=>by simp at h,fun _ _=>rfl⟩
 | v :: l,n,d=>by
  obtain⟨h1,h2,h3⟩:=lk_numF l (n+1) d
  refine⟨fun h=>?_,fun s h hs=>?_,fun h hs=>?_⟩
  ·simp only[numF,lk]
   have:(n == d)=false:=by simp; omega
   rw[this]; exact h1 (by omega)
  ·simp only[numF,lk]
   by_cases e:n=d
   ·subst e; simp at hs; simp[hs]
   ·have:(n == d)=false:=by simpa using e
    rw[this]
    have e2:d - n=(d - (n+1))+1:=by omega
    rw[e2,List.getElem?_cons_succ] at hs
    exact h2 s (by omega) hs
  ·simp only[numF,lk]
   by_cases e:n=d
   ·subst e; simp at hs
   ·have:(n == d)=false:=by simpa using e
    rw[this]
    have e2:d - n=(d - (n+1))+1:=by omega
    rw[e2,List.getElem?_cons_succ] at hs
    exact h3 (by omega) hs
theorem zj5z {w:World} {N:Nat} (h:N≤w.heap.size) (st:List Nat) (nt:Nat) (mk:List Nat):HeapOk ⟨w,N,st,nt,mk⟩ [] w where
 keep:=Keep.refl _ _
 floor:=h
 ents i e hi:=by simp[nth] at hi
 fresh i e g hi:=by simp[nth] at hi
 dist i j e e' g _ hi:=by simp[nth] at hi
abbrev cxOf (P:Program) (fn:Func) (keep:List Nat) (tab:Nat→XC) (R:Value→World→Prop):Cx:=⟨none,P,zj0p,endPost P fn R,keep,tab⟩
theorem calls_G {P:Program} {f:FuncId} {fn:Func} {c:Code} {xc:XC} {args:List Value} {w:World} {R:Value→World→Prop} {keep:List Nat} {tab:Nat→XC} {E:Env} {H:List SO} {svs:List SV}
  (hf:P.funcs[f]? = some fn) (hb:fn.body=some c) {n:Nat} (hc:cmp P zj0p fn.ntmps c=some (expand tab n xc)) (hE:E.nt=fn.ntmps) (hm:E.marks=[]) (hlen:args.length≤fn.ntmps) (hH:HeapOk E H w) (ha:IsL H svs args)
  (h:G (cxOf P fn keep tab R) E [.code xc] { F:=numF 0 svs,H:=H }):CallsV P f args w R:=by
 refine zj15 (r:=none) (n:=0) |>.1 ?_
 refine callsIn_of_wp hf hb trivial ?_
 have hrep:Rep E { F:=numF 0 svs,H:=H } { tmps:=args.toArray++Array.replicate (fn.ntmps - args.toArray.size) undef,defers:=[] } w:=by
  refine⟨by simp[hE]; omega,fun d=>?_,by simp[hm],hH⟩
  obtain⟨_,h2,h3⟩:=lk_numF svs 0 d
  have hll:=ha.length
  cases hs:svs[d]? with
  | none => 
   have:=h3 (Nat.zero_le _) (by simpa using hs)
   show Is H (lk (numF 0 svs) d) _
   rw[this]; simp[Is]
  | some s =>
   have:=h2 s (Nat.zero_le _) (by simpa using hs)
   show Is H (lk (numF 0 svs) d) _
   rw[this]
   obtain⟨u,hu,hi⟩:=ha.get hs
   have hlt:d < args.length:=(List.getElem?_eq_some_iff.1 hu).1
   have e:(args.toArray++Array.replicate (fn.ntmps - args.toArray.size) undef).getD d undef=u:=by
    rw[Array.getD_eq_getD_getElem?,Array.getElem?_append_left (by simpa using hlt)]
    simp[hu]
   rw[e]; exact hi
 have hw:=h _ w hrep n c (by rw[hE]; exact hc)
 refine wpIn_mono hw fun e a' w' hq=>?_
 cases e with
 | normal=>exact hq
 | ret=>exact hq
 | exit id=>exact hq.elim
 | goto l=>exact hq.elim
 | panic ch=>exact hq.elim
 | outgrown=>exact hq.elim
def resT:List ResultVar→Option (List Nat)
 | []=>some []
 | .tmp t :: l=>match resT l with | some r=>some (t :: r) | none=>none
 | .cell .. :: _=>none
def tupOf:List Value→Value
 | [v]=>v
 | l=>.tuple l.toArray
def denAll (H:List SO) (F:List (Nat × SV)):List Nat→Option (List Value)
 | []=>some []
 | t :: l=>match den H (lk F t),denAll H F l with | some v,some r=>some (v :: r) | _,_=>none
theorem zj2p {E:Env} {s:SS} {a:Act} {W:World} (rep:Rep E s a W):∀ (ts:List Nat) (vs:List Value),denAll s.H s.F ts=some vs→ts.map (fun t=>a.tmps.getD t undef)=vs
 | [],vs,h=>by simp[denAll] at h; simp[h]
 | t :: l,vs,h=>by
  simp only[denAll] at h
  split at h
  case h_2=>cases h
  rename_i v r h1 h2
  injection h with h; subst h
  simp only[List.map_cons]
  rw[den_is _ h1 (rep.frame t),zj2p rep l r h2]
theorem zj27 {P:Program} {fn:Func} {ts:List Nat} (h:resT fn.results.toList=some ts) (tmps:Array Value) (w:World) :
  (results fn tmps).run P w=.ok (tupOf (ts.map fun t=>tmps.getD t undef)) w:=by
 have key:∀ (g:ResultVar→Sem Value),(∀ t,g (.tmp t)=pure (tmps.getD t undef))→∀ (rs:List ResultVar) (ts:List Nat),resT rs=some ts→(rs.mapM g:Sem (List Value)).run P w=.ok (ts.map fun t=>tmps.getD t undef) w:=by
  intro g hg rs
  induction rs with
  | nil=>intro ts h; simp[resT] at h; subst h; rfl
  | cons x rs ih =>
   intro ts h
   cases x with
   | tmp t =>
    simp only[resT] at h
    split at h
    ·rename_i r hr
     injection h with h; subst h
     rw[List.mapM_cons]
     simp only[hg,Sem.run_bind,Sem.run_pure,Result.andThen_ok,ih r hr,List.map_cons]
    ·cases h
   | cell a t=>simp[resT] at h
 unfold results
 have e:fn.results=fn.results.toList.toArray:=by simp
 rw[e,List.mapM_toArray]
 simp only[Sem.run_bind,Sem.run_map]
 rw[key _ (fun t=>rfl) _ ts h]
 simp only[Result.andThen_ok,Sem.run_pure]
 congr 1
 generalize (ts.map fun t=>tmps.getD t undef)=l
 match l with
 | []=>simp[tupOf]
 | [v]=>simp[tupOf]
 | v :: u :: l=>simp[tupOf]
theorem zj01 {P:Program} {fn:Func} {keep:List Nat} {tab:Nat→XC} {R:Value→World→Prop} {E:Env} {s:SS} {ts:List Nat} {vs:List Value} (hr:resT fn.results.toList=some ts) (hm:E.marks=[])
  (hv:denAll s.H s.F ts=some vs) (h:∀ W,HeapOk E s.H W→R (tupOf vs) W):RetG (cxOf P fn keep tab R) E s:=by
 intro a W rep
 refine⟨by rw[rep.defers,hm]; rfl,_,zj27 hr a.tmps W,?_⟩
 rw[zj2p rep ts vs hv]
 exact h W rep.heap
theorem zj0u {P:Program} {fn:Func} {keep:List Nat} {tab:Nat→XC} {R:Value→World→Prop} {E:Env} {s:SS} {ts:List Nat} {vs:List Value} (hr:resT fn.results.toList=some ts) (hm:E.marks=[])
  (hv:denAll s.H s.F ts=some vs) (h:∀ W,HeapOk E s.H W→R (tupOf vs) W):G (cxOf P fn keep tab R) E [] s:=by
 intro a W rep
 refine⟨by rw[rep.defers,hm]; rfl,_,zj27 hr a.tmps W,?_⟩
 rw[zj2p rep ts vs hv]
 exact h W rep.heap
theorem zj53 {P:Program} {op:Op} {f:FuncId} {args:List Operand} (h:cmpI P op=some (.call f args)):∃ c,op=.call c∧c.callee=.value (.func f)∧c.args.toList=args∧fnOk P f=true:=by
 unfold cmpI at h
 split at h
 ·cases h
 ·split at h
  case h_2=>cases h
  rename_i c _
  split at h
  ·rename_i f' hc
   split at h
   ·rename_i hok; injection h with h; injection h with e1 e2; subst e1; exact⟨c,rfl,hc,e2,hok⟩
   ·cases h
  ·injection h with h; cases h
  ·cases h
theorem zj3v {P:Program} {op:Op} {x:Operand} {args:List Operand} (h:cmpI P op=some (.callv x args)):∃ c,op=.call c∧c.callee=.value x∧c.args.toList=args:=by
 unfold cmpI at h
 split at h
 ·cases h
 ·split at h
  case h_2=>cases h
  rename_i c _
  split at h
  ·split at h
   ·injection h with h; cases h
   ·cases h
  ·rename_i t hc; injection h with h; injection h with e1 e2; subst e1; exact⟨c,rfl,hc,e2⟩
  ·cases h
theorem zj32 {P:Program} {o:Oper} {c:Call} (hop:o.op=.call c) (hn:cmpK P o.op=none):cl P o=2:=by unfold cl; rw[hn]
theorem zj28 {P:Program} {op:Op} {i:XI} (h:cmpI P op=some i) (hi:∀ x,i ≠ .k x):cmpK P op=none:=by
 unfold cmpI at h
 split at h
 ·injection h with h; exact absurd h.symm (hi _)
 ·rename_i hk; exact hk
theorem zj0q {P:Program} {f:FuncId} (h:fnOk P f=true) (args:Array Value) (W:World):(callFunc f args).run P W=.ok (.enter f args) W:=by
 unfold fnOk at h
 split at h
 ·rename_i fn hf
  simp only[Bool.and_eq_true,Bool.not_eq_true'] at h
  have hb:fn.body.isNone=false:=by cases hb:fn.body <;> simp_all
  simp only[callFunc,Sem.run_bind,run_program,Result.andThen_ok,hf,h.1,Bool.false_eq_true,if_false,hb]
  rfl
 ·cases h
theorem zj0b {C:Cx} {E:Env} {d:Option Nat} {f:FuncId} {args:List Operand} {l:List XS} {k:List KI} {s:SS} {vs:List Value} (hargs:denL s.H (evL s.F args)=some vs)
  {R:World→Value→World→Prop} (hc:∀ W,HeapOk E s.H W→CallsV C.P f vs W (R W))
  (next:∀ W v W',HeapOk E s.H W→R W v W'→∃ sv H',Is H' sv v∧HExt s.H H'∧HeapOk E H' W'∧G C E (.ops l :: k) { F:=putF s.F d sv,H:=H' }) :
  G C E (.ops ({ dst:=d,guard:=none,i:=.call f args } :: l) :: k) s:=by
 intro a W rep ops ol hol
 obtain⟨q,rest,rfl,ho,hl⟩:=zj11 hol
 obtain⟨op,rfl,hd,hdst,hg,hi⟩:=zj10 ho rfl
 obtain⟨c,hop,hcal,hargs',hok⟩:=zj53 hi
 have hn:=zj28 hi (by simp)
 have hw:=zj0r hg a
 show stepS C.r C.P ops _ op _ a W
 unfold stepS
 rw[if_pos hw,zj32 hop hn]
 refine⟨fun _ _=>trivial,?_⟩
 have hnd:∀ c',op.op ≠ .defer c':=by intro c' e; rw[hop] at e; cases e
 have hvs:(c.args.map a.eval)=vs.toArray:=by
  have:=zj0t _ hargs (rep.evL args)
  rw[← hargs'] at this
  rw[← this,← Array.toList_map,Array.toArray_toList]
 have hrun:(execOp a.eval op).run C.P W=.ok (.enter f vs.toArray) W:=by
  simp only[execOp,hop,resolve,hcal,Act.eval,hvs,Deferred.ofValue,Sem.run_bind,Sem.run_pure,Result.andThen_ok,invoke,Array.append_empty,Array.empty_append]
  exact zj0q hok _ W
 rw[Oper.semAt_eq _ _ _ hnd,hrun]
 refine⟨fun h=>by simp[WF,Fence.wide] at h,?_⟩
 refine zj15.2 ?_
 refine Calls.mono (hc W rep.heap) fun e W' he=>?_
 cases e with
 | returned v =>
  obtain⟨sv,H',h1,h2,h3,h4⟩:=next W v W' rep.heap he
  have hdst':d=op.dst:=hdst
  have:=h4 (a.put op.dst v) W' (by rw[← hdst']; exact (rep.ext h2 h3).put (fun m hm=>hd m (by rw[← hdst']; exact hm)) h1)
  exact this ops rest hl
 | panicked ch=>exact he.elim
 | outgrown=>exact he.elim
structure SameH (w w':World):Prop where
 heap:w'.heap=w.heap
 os:w'.os=w.os
 tape:w'.tape=w.tape
 output:w'.output=w.output
def Fresh (w w':World):Prop:=Keep (fun j=>j < w.heap.size) w w'
theorem Fresh.refl (w:World):Fresh w w:=Keep.refl _ _
theorem HeapOk.freshK {E:Env} {H:List SO} {W W':World} (h:HeapOk E H W) (k:Fresh W W'):HeapOk E H W' where
 keep:=h.keep.trans (k.mono fun j hj=>Nat.lt_of_lt_of_le hj.1 h.floor)
 floor:=Nat.le_trans h.floor k.size
 ents i e hi:=(h.ents i e hi).mono (HExt.refl _) fun g hg=>k.block g (h.fresh i e g hi hg).1
 fresh i e g hi hg:=by have:=h.fresh i e g hi hg; exact⟨Nat.lt_of_lt_of_le this.1 k.size,this.2⟩
 dist:=h.dist
theorem zj00 {C:Cx} {E:Env} {d:Option Nat} {f:FuncId} {args:List Operand} {l:List XS} {k:List KI} {s:SS} {vs:List Value} (hargs:denL s.H (evL s.F args)=some vs)
  {R:Value→Prop} (hc:∀ W,HeapOk E s.H W→CallsV C.P f vs W fun v W'=>R v∧Fresh W W')
  (next:∀ v,R v→∃ sv,Is s.H sv v∧G C E (.ops l :: k) { F:=putF s.F d sv,H:=s.H }) :
  G C E (.ops ({ dst:=d,guard:=none,i:=.call f args } :: l) :: k) s:=by
 refine zj0b hargs (R:=fun W v W'=>R v∧Fresh W W') hc fun W v W' hW hr=>?_
 obtain⟨sv,h1,h2⟩:=next v hr.1
 exact⟨sv,s.H,h1,HExt.refl _,hW.freshK hr.2,h2⟩
theorem zj1d {C:Cx} {E:Env} {d:Option Nat} {f:FuncId} {args:List Operand} {l:List XS} {k:List KI} {s:SS} {vs:List Value} (hargs:denL s.H (evL s.F args)=some vs)
  {t:TypeId} {sz n:Nat} {xs:List Value} (hc:∀ W,HeapOk E s.H W→CallsV C.P f vs W fun v W'=>World.ownsB W' W.heap.size t sz v n xs∧Fresh W W')
  (next:∀ A c,G C E (.ops l :: k) { F:=putF s.F d (.own s.H.length 0),H:=s.H++[.own t 0 sz A n c xs] }) :
  G C E (.ops ({ dst:=d,guard:=none,i:=.call f args } :: l) :: k) s:=by
 refine zj0b hargs (R:=fun W v W'=>World.ownsB W' W.heap.size t sz v n xs∧Fresh W W') hc fun W v W' hW hr=>?_
 obtain⟨⟨hl,hr1⟩,hk⟩:=hr
 rcases hr1 with⟨A,rfl,rfl,hA⟩ | ⟨g,b,cap,cur,rfl,hge,hg,h1,h2,h3,h4⟩
 ·refine⟨.own s.H.length 0,_,?_,HExt.push _ _,?_,next A 0⟩
  ·simp only[Is]; exact⟨t,0,sz,A,0,0,xs,by rw[nth_eq]; simp,Nat.le_refl _,⟨_,_,_,rfl⟩,fun _=>rfl⟩
  ·refine hW.pushG (row:=none) hk.size hk.os hk.tape hk.output (fun j hj _=>hk.block j hj) (fun _ e=>by cases e) (fun g' hg'=>?_) ⟨hl,.inl ⟨rfl,rfl,fun a ha=>(hA a ha).2⟩⟩
   cases A with
   | none=>cases hg'
   | some a =>
    simp only[SO.fp,Option.map_some,Option.some.injEq] at hg'; subst hg'
    obtain⟨h1,o,h2⟩:=hA a rfl
    exact⟨.inr h1,(Array.getElem?_eq_some_iff.1 h2).1⟩
 ·refine⟨.own s.H.length 0,_,?_,HExt.push _ _,?_,next (some ⟨g,b,none⟩) cap⟩
  ·simp only[Is]; exact⟨t,0,sz,some ⟨g,b,none⟩,n,cap,xs,by rw[nth_eq]; simp,Nat.le_refl _,⟨_,_,_,rfl⟩,fun _=>rfl⟩
  ·refine hW.pushG (row:=none) hk.size hk.os hk.tape hk.output (fun j hj _=>hk.block j hj) (fun _ e=>by cases e) (fun g' hg'=>?_) ⟨hl,.inr ⟨g,b,cur,rfl,hg,h1,h2,h3,h4⟩⟩
   simp[SO.fp] at hg'; subst hg'
   exact⟨.inr hge,(Array.getElem?_eq_some_iff.1 hg).1⟩
def LE (E:Env) (s:SS) (E':Env) (s':SS):Prop:=∀ a W,Rep E s a W→Rep E' s' a W
theorem loop_rule {C:Cx} {E:Env} {c:XC} {k:List KI} {s:SS} {α:Type} (φ:α→Prop) (Ex:α→Env) (S:α→SS) (μ:α→Nat) (hnt:∀ x,(Ex x).nt=E.nt)
  (start:∀ a W,Rep E s a W→∃ x,φ x∧Rep (Ex x) (S x) a W)
  (round:∀ x,φ x→G C (Ex x) (.code c :: .lend (fun a W=>∃ y,φ y∧Rep (Ex y) (S y) a W∧μ y < μ x) :: k) (S x)) :
  G C E (.code (.loop c) :: k) s:=by
 intro a W rep nx cc hc
 rw[expand_loop] at hc
 obtain⟨c1,rfl,h1⟩:=cmp_loop hc
 let M:Act→World→α→Prop:=fun a W x=>φ x∧Rep (Ex x) (S x) a W
 -- the least measure of those that fit
 have least:∀ a W,(∃ x,M a W x)→∃ n,(∃ x,M a W x∧μ x=n)∧∀ x,M a W x→n≤μ x:=by
  intro a W ⟨x,hx⟩
  have key:∀ n x,M a W x→μ x=n→∃ n,(∃ x,M a W x∧μ x=n)∧∀ x,M a W x→n≤μ x:=by
   intro n
   induction n using Nat.strongRecOn with
   | _ n ih =>
    intro x hx hn
    rcases Classical.em (∃ y,M a W y∧μ y < n) with⟨y,hy,hlt⟩ | hno
    ·exact ih (μ y) hlt y hy rfl
    ·exact⟨n,⟨x,hx,hn⟩,fun y hy=>Nat.le_of_not_lt fun hlt=>hno ⟨y,hy,hlt⟩⟩
  exact key _ x hx rfl
 let m:Act→World→Nat:=fun a W=>Classical.epsilon fun n=>(∃ x,M a W x∧μ x=n)∧∀ x,M a W x→n≤μ x
 have hm:∀ a W,(∃ x,M a W x)→(∃ x,M a W x∧μ x=m a W)∧∀ x,M a W x→m a W≤μ x:=fun a W h=>Classical.epsilon_spec (least a W h)
 refine wpIn_loop (fun a W=>∃ x,M a W x) m (start a W rep) fun a W hI=>?_
 obtain⟨⟨x,⟨hφ,hrep⟩,hμ⟩,_⟩:=hm a W hI
 have hG:=round x hφ a W hrep nx c1 (by rw[hnt x]; exact h1)
 refine wpIn_mono hG fun e a' W' hq=>?_
 have hq:denK C.tab C.r C.P C.ord (Ex x).nt C.Q (.lend _ :: k) e a' W':=hq
 rw[hnt x] at hq
 cases e with
 | normal =>
  obtain⟨y,h2,h3,h4⟩:=hq
  refine⟨⟨y,h2,h3⟩,?_⟩
  have:=(hm a' W' ⟨y,h2,h3⟩).2 y ⟨h2,h3⟩
  omega
 | _=>exact hq
theorem zj02 {C:Cx} {E:Env} {I:Act→World→Prop} {k:List KI} {s:SS} (h:∀ a W,Rep E s a W→I a W):G C E (.lend I :: k) s:=fun a W rep=>h a W rep
theorem G.le {C:Cx} {E E':Env} {k:List KI} {s s':SS} (hn:E'.nt=E.nt) (hle:LE E s E' s') (h:G C E' k s'):G C E k s:=by
 intro a W rep
 have:=h a W (hle a W rep)
 rw[hn] at this; exact this
mutual
def scp (m:Nat):SV→Bool
 | .ptr i _ | .slc i _ _ _ | .own i _ | .oad i _ _ | .mp i=>decide (i < m)
 | .agg l | .tup l=>scpL m l
 | .fn _ a b=>scpL m a && scpL m b
 | _=>true
def scpL (m:Nat):List SV→Bool
 | []=>true
 | s :: l=>scp m s && scpL m l
end
def leF (m:Nat) (F:List (Nat × SV)):List (Nat × SV)→Prop
 | []=>True
 | (d,.unk) :: l=>leF m F l
 | (d,sv) :: l=>(lk F d=sv∧scp m sv=true)∧leF m F l
def scpO (m:Nat):SO→Bool
 | .cells _ _ l=>scpL m l
 | _=>true
def leH (m:Nat):List SO→List SO→Prop
 | _,[]=>True
 | e :: H,e' :: H'=>(e=e'∧scpO m e'=true)∧leH m H H'
 | [],_ :: _=>False
theorem leH_spec {m:Nat}:∀ {H H':List SO},leH m H H'→∃ r,H=H'++r∧∀ e ∈ H',scpO m e=true
 | H,[],_=>⟨H,rfl,by simp⟩
 | e :: H,e' :: H',h=>by
  obtain⟨⟨rfl,h1⟩,h2⟩:=h
  obtain⟨r,rfl,h3⟩:=leH_spec h2
  exact⟨r,rfl,fun x hx=>by rcases List.mem_cons.1 hx with rfl | hx; exact h1; exact h3 x hx⟩
 | [],e' :: H',h=>h.elim
theorem zj3w {H' r:List SO} {i g:Nat} (hi:i < H'.length) (h:blk (H'++r) i=some g):blk H' i=some g:=by
 rw[blk_eq,nth_eq] at *; rw[List.getElem?_append_left hi] at h; exact h
mutual
theorem Is.pre {H' r:List SO}:∀ (s:SV) {v:Value},scp H'.length s=true→Is (H'++r) s v→Is H' s v
 | .unk,_,_,_=>by simp[Is]
 | .val _,_,_,h=>by simpa [Is] using h
 | .opq _ _,_,_,h=>by simpa [Is] using h
 | .bt,_,_,h=>by simpa [Is] using h
 | .bf,_,_,h=>by simpa [Is] using h
 | .ptr i off,_,hs,h=>by simp only[Is] at *; obtain⟨g,hg,hv⟩:=h; exact⟨g,zj3w (by simpa [scp] using hs) hg,hv⟩
 | .adr A off,_,_,h=>by simpa [Is] using h
 | .slc i off n c,_,hs,h=>by simp only[Is] at *; obtain⟨g,hg,hv⟩:=h; exact⟨g,zj3w (by simpa [scp] using hs) hg,hv⟩
 | .own i ver,_,hs,h=>by
  simp only[Is] at *; obtain⟨t,v',sz,A,n,c,xs,he,q⟩:=h
  exact⟨t,v',sz,A,n,c,xs,by rw[nth_eq] at *; rw[List.getElem?_append_left (by simpa [scp] using hs)] at he; exact he,q⟩
 | .oad i ver off,_,hs,h=>by
  simp only[Is] at *; obtain⟨t,v',sz,A,n,c,xs,he,q⟩:=h
  exact⟨t,v',sz,A,n,c,xs,by rw[nth_eq] at *; rw[List.getElem?_append_left (by simpa [scp] using hs)] at he; exact he,q⟩
 | .mp i,_,hs,h=>by simp only[Is] at *; obtain⟨g,hg,hv⟩:=h; exact⟨g,zj3w (by simpa [scp] using hs) hg,hv⟩
 | .agg l,_,hs,h=>by simp only[Is] at *; obtain⟨vs,hl,hv⟩:=h; exact⟨vs,IsL.pre l (by simpa [scp] using hs) hl,hv⟩
 | .tup l,_,hs,h=>by simp only[Is] at *; obtain⟨vs,hl,hv⟩:=h; exact⟨vs,IsL.pre l (by simpa [scp] using hs) hl,hv⟩
 | .fn f a b,_,hs,h=>by
  simp only[Is] at *; obtain⟨p,q,hp,hq,hv⟩:=h
  simp only[scp,Bool.and_eq_true] at hs
  exact⟨p,q,IsL.pre a hs.1 hp,IsL.pre b hs.2 hq,hv⟩
theorem IsL.pre {H' r:List SO}:∀ (l:List SV) {vs:List Value},scpL H'.length l=true→IsL (H'++r) l vs→IsL H' l vs
 | [],_,_,h=>by simpa [IsL] using h
 | s :: l,_,hs,h=>by
  simp only[IsL] at *; obtain⟨v,q,hv,hr,e⟩:=h
  simp only[scpL,Bool.and_eq_true] at hs
  exact⟨v,q,Is.pre s hs.1 hv,IsL.pre l hs.2 hr,e⟩
end
theorem HeapOk.pre {E:Env} {H' r:List SO} {W:World} (h:HeapOk E (H'++r) W) (hs:∀ e ∈ H',scpO H'.length e=true):HeapOk E H' W where
 keep:=h.keep
 floor:=h.floor
 ents i e hi:=by
  have:=h.ents i e (zj04 hi)
  cases e with
  | cells g t l =>
   obtain⟨c,hc,hL⟩:=this
   have hm:SO.cells g t l ∈ H':=by rw[nth_eq] at hi; exact List.mem_of_getElem? hi
   exact⟨c,hc,IsL.pre l (hs _ hm) hL⟩
  | _=>exact this
 fresh i e g hi:=h.fresh i e g (zj04 hi)
 dist i j e e' g hij h1 h2:=h.dist i j e e' g hij (zj04 h1) (zj04 h2)
theorem zj76 {m:Nat} {F:List (Nat × SV)}:∀ {F':List (Nat × SV)},leF m F F'→∀ d,lk F' d=.unk∨(lk F d=lk F' d∧scp m (lk F' d)=true)
 | [],_,d=>.inl rfl
 | (e,sv) :: l,h,d=>by
  have h2:leF m F l:=by cases sv <;> first | exact h | exact h.2
  simp only[lk]
  cases hb:e == d with
  | false=>exact zj76 h2 d
  | true =>
   have:e=d:=by simpa using hb
   subst this
   cases sv <;> first | exact .inl rfl | exact .inr h.1
theorem Rep.le {E:Env} {s s':SS} {a:Act} {W:World} (rep:Rep E s a W) (hF:leF s'.H.length s.F s'.F) (hH:leH s'.H.length s.H s'.H):Rep E s' a W:=by
 obtain⟨r,e,hs⟩:=leH_spec hH
 refine⟨rep.size,fun d=>?_,rep.defers,?_⟩
 ·rcases zj76 hF d with h | ⟨h,hsc⟩
  ·rw[h]; simp[Is]
  ·have:=rep.frame d
   rw[h,e] at this
   exact Is.pre _ hsc this
 ·have:=rep.heap
  rw[e] at this
  exact this.pre hs
mutual
def resV (H:List SO):SV→SV
 | .own i ver=>(match nth H i with
  | some (.own _ ver' _ _ _ _ _)=>(match ver' == ver with | true=>.own i 0 | false=>.unk)
  | _=>.unk)
 | .oad i ver off=>(match nth H i with
  | some (.own _ ver' _ _ _ _ _)=>(match ver' == ver with | true=>.oad i 0 off | false=>.unk)
  | _=>.unk)
 | .agg l=>.agg (resVL H l)
 | .tup l=>.tup (resVL H l)
 | .fn f a b=>.fn f (resVL H a) (resVL H b)
 | v=>v
def resVL (H:List SO):List SV→List SV
 | []=>[]
 | s :: l=>resV H s :: resVL H l
end
def resO (H:List SO):SO→SO
 | .cells g t l=>.cells g t (resVL H l)
 | .own t _ sz A n c xs=>.own t 0 sz A n c xs
 | e=>e
def resH (H:List SO):List SO→List SO
 | []=>[]
 | e :: l=>resO H e :: resH H l
def resF (H:List SO):List (Nat × SV)→List (Nat × SV)
 | []=>[]
 | (d,v) :: l=>(d,resV H v) :: resF H l
theorem zj2i (H:List SO):∀ (l:List SO) (i:Nat),nth (resH H l) i=(nth l i).map (resO H)
 | [],i=>by simp[resH,nth]
 | e :: l,0=>by simp[resH,nth]
 | e :: l,i+1=>by simp[resH,nth,zj2i H l i]
theorem zj77 (H:List SO) (i:Nat):blk (resH H H) i=blk H i:=by
 rw[blk_eq,blk_eq,zj2i]
 cases nth H i with
 | none=>rfl
 | some e=>cases e <;> rfl
mutual
theorem Is.res {H:List SO}:∀ (s:SV) {v:Value},Is H s v→Is (resH H H) (resV H s) v
 | .unk,_,_=>by simp[resV,Is]
 | .val _,_,h=>by simpa [resV,Is] using h
 | .opq _ _,_,h=>by simpa [resV,Is] using h
 | .bt,_,h=>by simpa [resV,Is] using h
 | .bf,_,h=>by simpa [resV,Is] using h
 | .ptr i off,_,h=>by simp only[resV,Is] at *; obtain⟨g,hg,hv⟩:=h; exact⟨g,by rw[zj77]; exact hg,hv⟩
 | .adr A off,_,h=>by simpa [resV,Is] using h
 | .slc i off n c,_,h=>by simp only[resV,Is] at *; obtain⟨g,hg,hv⟩:=h; exact⟨g,by rw[zj77]; exact hg,hv⟩
 | .own i ver,_,h=>by
  simp only[Is] at h; obtain⟨t,v',sz,A,n,c,xs,he,hle,hsh,hv⟩:=h
  simp only[resV,he]
  split
  ·rename_i hb
   simp only[Is]
   exact⟨t,0,sz,A,n,c,xs,by rw[zj2i,he]; rfl,Nat.le_refl _,hsh,fun _=>hv (by simpa using hb)⟩
  ·simp[Is]
 | .oad i ver off,_,h=>by
  simp only[Is] at h; obtain⟨t,v',sz,A,n,c,xs,he,hle,hsh,hv⟩:=h
  simp only[resV,he]
  split
  ·rename_i hb
   simp only[Is]
   exact⟨t,0,sz,A,n,c,xs,by rw[zj2i,he]; rfl,Nat.le_refl _,hsh,fun _=>hv (by simpa using hb)⟩
  ·simp[Is]
 | .mp i,_,h=>by simp only[resV,Is] at *; obtain⟨g,hg,hv⟩:=h; exact⟨g,by rw[zj77]; exact hg,hv⟩
 | .agg l,_,h=>by simp only[resV,Is] at *; obtain⟨vs,hl,hv⟩:=h; exact⟨vs,IsL.res l hl,hv⟩
 | .tup l,_,h=>by simp only[resV,Is] at *; obtain⟨vs,hl,hv⟩:=h; exact⟨vs,IsL.res l hl,hv⟩
 | .fn f a b,_,h=>by simp only[resV,Is] at *; obtain⟨p,q,hp,hq,hv⟩:=h; exact⟨p,q,IsL.res a hp,IsL.res b hq,hv⟩
theorem IsL.res {H:List SO}:∀ (l:List SV) {vs:List Value},IsL H l vs→IsL (resH H H) (resVL H l) vs
 | [],_,h=>by simpa [resVL,IsL] using h
 | s :: l,_,h=>by
  simp only[resVL,IsL] at *; obtain⟨v,r,hv,hr,e⟩:=h
  exact⟨v,r,Is.res s hv,IsL.res l hr,e⟩
end
theorem fp_resO (H:List SO) (e:SO):(resO H e).fp=e.fp:=by cases e <;> rfl
theorem HeapOk.res {E:Env} {H:List SO} {W:World} (h:HeapOk E H W):HeapOk E (resH H H) W where
 keep:=h.keep
 floor:=h.floor
 ents i e hi:=by
  rw[zj2i] at hi
  cases hn:nth H i with
  | none=>rw[hn] at hi; cases hi
  | some e' =>
   rw[hn] at hi; simp only[Option.map_some] at hi; injection hi with hi; subst hi
   have:=h.ents i e' hn
   cases e' with
   | cells g t l=>obtain⟨c,hc,hL⟩:=this; exact⟨c,hc,IsL.res l hL⟩
   | _=>exact this
 fresh i e g hi hg:=by
  rw[zj2i] at hi
  cases hn:nth H i with
  | none=>rw[hn] at hi; cases hi
  | some e' =>
   rw[hn] at hi; simp only[Option.map_some] at hi; injection hi with hi; subst hi
   rw[fp_resO] at hg; exact h.fresh i e' g hn hg
 dist i j e e' g hij h1 h2 hg:=by
  rw[zj2i] at h1 h2
  cases hn:nth H i with
  | none=>rw[hn] at h1; cases h1
  | some e1 =>
   cases hm:nth H j with
   | none=>rw[hm] at h2; cases h2
   | some e2 =>
    rw[hn] at h1; simp only[Option.map_some] at h1; injection h1 with h1; subst h1
    rw[hm] at h2; simp only[Option.map_some] at h2; injection h2 with h2; subst h2
    rw[fp_resO] at hg ⊢
    exact h.dist i j e1 e2 g hij hn hm hg
theorem lk_resF (H:List SO):∀ (F:List (Nat × SV)) (d:Nat),lk (resF H F) d=resV H (lk F d)
 | [],d=>by simp[resF,lk,resV]
 | (e,v) :: F,d=>by
  simp only[resF,lk]
  cases e == d with
  | true=>rfl
  | false=>exact lk_resF H F d
theorem Rep.res {E:Env} {s:SS} {a:Act} {W:World} (rep:Rep E s a W):Rep E { F:=resF s.H s.F,H:=resH s.H s.H } a W :=
 ⟨rep.size,fun d=>by
  show Is _ (lk (resF s.H s.F) d) _
  rw[lk_resF]; exact Is.res _ (rep.frame d),rep.defers,rep.heap.res⟩
theorem Rep.adopt {E:Env} {s:SS} {a:Act} {W:World} (rep:Rep E s a W) (d:Nat) (t:TypeId) (sz:Nat) (h:lk s.F d=.val (.slice none 0 0)) :
  Rep E { F:=(d,.own s.H.length 0) :: s.F,H:=s.H++[.own t 0 sz none 0 0 []] } a W:=by
 have hx:=HExt.push s.H (.own t 0 sz none 0 0 [])
 have hh:HeapOk E (s.H++[.own t 0 sz none 0 0 []]) W:=rep.heap.pushG (row:=none) (Nat.le_refl _) rfl rfl rfl (fun _ _ _=>rfl) (fun _ e=>by cases e) (fun g hg=>by simp[SO.fp] at hg) ⟨by simp,.inl ⟨rfl,rfl,fun a h=>by cases h⟩⟩
 have:=rep.ext hx hh
 refine Rep.tell this ?_
 have hf:=rep.frame d
 rw[h] at hf
 simp only[Is] at hf ⊢
 exact⟨t,0,sz,none,0,0,[],by rw[nth_eq]; simp,Nat.le_refl _,⟨_,_,_,hf⟩,fun _=>hf⟩
def cmpF (P:Program) (fn:Func):Option XC:=match fn.body with | some c=>cmp P zj0p fn.ntmps c | none=>none
theorem zj3h {P:Program} {fn:Func} {x:XC} (h:cmpF P fn=some x):∃ c,fn.body=some c∧cmp P zj0p fn.ntmps c=some x:=by
 unfold cmpF at h
 split at h
 ·rename_i c hc; exact⟨c,hc,h⟩
 ·cases h
theorem calls_X {P:Program} {f:FuncId} {fn:Func} {xc:XC} {args:List Value} {w:World} {R:Value→World→Prop} {keep:List Nat} {tab:Nat→XC} {svs:List SV} {nt m:Nat}
  (hf:P.funcs[f]? = some fn) (hc:cmpF P fn=some (expand tab m xc)) (hn:fn.ntmps=nt) (hlen:args.length≤nt) (ha:IsL [] svs args)
  (h:G (cxOf P fn keep tab R) ⟨w,w.heap.size,[],nt,[]⟩ [.code xc] { F:=numF 0 svs,H:=[] }):CallsV P f args w R:=by
 obtain⟨c,hb,hc⟩:=zj3h hc
 exact calls_G hf hb hc hn.symm rfl (by omega) (zj5z (Nat.le_refl _) _ _ _) ha h
theorem ArOk.add64 {a b:Int} (h1 : -9223372036854775808≤a+b) (h2:a+b≤9223372036854775807):ArOk .add .i64 a b (a+b):=by
 show a+b=IntKind.wrap .i64 (a+b)
 rw[IntKind.wrap_i64]; omega
theorem ArOk.sub64 {a b:Int} (h1 : -9223372036854775808≤a - b) (h2:a - b≤9223372036854775807):ArOk .sub .i64 a b (a - b):=by
 show a - b=IntKind.wrap .i64 (a - b)
 rw[IntKind.wrap_i64]; omega
end Go.Sx
