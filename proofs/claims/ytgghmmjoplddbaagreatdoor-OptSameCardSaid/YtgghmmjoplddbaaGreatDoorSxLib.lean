/- The engine, part 11: small laws that walks use again and again. -/
import Derived.Test.YtgghmmjoplddbaaGreatDoorSxEval
import Derived.Laws.BitsLemmas
import Derived.RangeFuncIn
import Derived.RangeFuncRecord
import Derived.RangeFuncLeaves
set_option linter.unusedSimpArgs false
set_option linter.unusedVariables false
set_option linter.unnecessarySimpa false
namespace Go.Sx
theorem leH_nil (m:Nat) (H:List SO):leH m H []=True:=by cases H <;> rfl
theorem leH_cons (m:Nat) (e e':SO) (H H':List SO):leH m (e :: H) (e' :: H')=((e=e'∧scpO m e'=true)∧leH m H H'):=rfl
theorem leF_nil (m:Nat) (F:List (Nat × SV)):leF m F []=True:=rfl
theorem zj08 {C:Cx} {E:Env} {c:XC} {k:List KI} {s:SS} {α:Type} (φ:α→Prop) (Ex:α→Env) (S:α→SS) (μ:α→Nat) (hnt:∀ x,(Ex x).nt=E.nt)
  (start:∀ a W,Rep E s a W→∃ x,φ x∧Rep (Ex x) (S x) a W)
  (round:∀ x,φ x→∀ I:Act→World→Prop,(∀ y,φ y→μ y < μ x→∀ a W,Rep (Ex y) (S y) a W→I a W)→G C (Ex x) (.code c :: .lend I :: k) (S x)) :
  G C E (.code (.loop c) :: k) s :=
 loop_rule φ Ex S μ hnt start fun x hx=>round x hx _ fun y hy hm a W rep=>⟨y,hy,rep,hm⟩
theorem zj03 {P:Program} {f:FuncId} {fn:Func} {xc:XC} {args:List Value} {w:World} {R:Value→World→Prop} {keep:List Nat} {tab:Nat→XC} {svs:List SV} {nt m:Nat}
  (hf:P.funcs[f]? = some fn) (hc:cmpF P fn=some (expand tab m xc)) (hn:fn.ntmps=nt) (hlen:args.length≤nt) (ha:IsL [] svs args)
  (h:∀ R':Value→World→Prop,(∀ v W,R v W→R' v W)→G (cxOf P fn keep tab R') ⟨w,w.heap.size,[],nt,[]⟩ [.code xc] { F:=numF 0 svs,H:=[] }):CallsV P f args w R :=
 calls_X hf hc hn hlen ha (h R fun _ _ h=>h)
theorem Rep.torow {E:Env} {s:SS} {a:Act} {W:World} (rep:Rep E s a W) (i:Nat) {g:Nat} {t:TypeId} {l:List SV} {xs:List Value} (hi:nth s.H i=some (.cells g t l)) (hx:denL s.H l=some xs) :
  Rep E { F:=s.F,H:=setn s.H i (.row g t xs) } a W:=by
 have x:HExt s.H (setn s.H i (.row g t xs)):=HExt.setBlk hi rfl rfl
 refine rep.ext x (rep.heap.set hi x (fun g' hg=>.inl hg) (fun _ _ _=>rfl) (Nat.le_refl _) rfl rfl rfl ?_)
 obtain⟨c,hc,hL⟩:=rep.heap.ents i _ hi
 show W.heap[g]? = _
 rw[show W.heap[g]? = some (Obj.cells c t (0,0)) from hc,← zj0t _ hx hL]
theorem ArOk.to {a b r:Int} (h:a+b=r) (h1 : -9223372036854775808≤r) (h2:r≤9223372036854775807):ArOk .add .i64 a b r:=by
 subst h; exact ArOk.add64 h1 h2
theorem ArOk.toSub {a b r:Int} (h:a - b=r) (h1 : -9223372036854775808≤r) (h2:r≤9223372036854775807):ArOk .sub .i64 a b r:=by
 subst h; exact ArOk.sub64 h1 h2
theorem DivOk.rem_nn {k:IntKind} {a b:Int} (h0:0≤a) (hb:0 < b):DivOk .rem k a b (a % b):=by
 refine⟨by omega,?_⟩
 show a % b=a.tmod b
 rw[Int.tmod_eq_emod_of_nonneg h0]
theorem ShOk.shr {k:IntKind} {a b:Int} (d:Int) (hb:0≤b) (hd:(2:Int) ^ (min b.toNat k.bits)=d):ShOk .shr k a b (a / d):=by
 refine⟨hb,?_⟩
 show a / d=a.fdiv (2 ^ (min b.toNat k.bits))
 rw[hd,Int.fdiv_eq_ediv_of_nonneg]
 rw[← hd]; exact Int.le_of_lt (Int.pow_pos (by decide))
theorem ConvOk.u64' (a:Int):ConvOk .u64 a (a % 18446744073709551616):=by show _=_; simp[IntKind.wrap,IntKind.bits,IntKind.signed]
def RowAt (w:World) (A:Option Addr) (xs:List Value):Prop:=∀ j u,xs[j]? = some u→∃ a,A=some a∧a.block < w.heap.size∧w.cell? (a.add j)=some u
theorem zj1h (a:Addr) (j:Nat):(a.add j).block=a.block:=by unfold Addr.add; split <;> rfl
theorem zj57 (w:World) (g j:Nat) {cur:Array Value} {t:TypeId} {z:Nat × Nat} (h:w.heap[g]? = some (.cells cur t z)):w.cell? ((⟨g,0,none⟩:Addr).add j)=cur[j]? := by
 unfold World.cell?
 rw[zj1h,h]
 have e:((⟨g,0,none⟩:Addr).add j).spot=none∧((⟨g,0,none⟩:Addr).add j).off=j:=by
  unfold Addr.add
  split
  ·rename_i e; exact⟨rfl,e.symm⟩
  ·exact⟨rfl,by simp⟩
 simp only[e.1,e.2,Option.isSome_none,Bool.false_eq_true,if_false]
theorem RowAt.cell {w:World} {A:Option Addr} {xs:List Value} {nt:Nat} (h:RowAt w A xs) {j:Nat} {u:Value} (hj:xs[j]? = some u):CellAt ⟨w,w.heap.size,[],nt,[]⟩ A j u:=by
 obtain⟨a,h1,h2,h3⟩:=h j u hj
 exact⟨a,h1,⟨h2,by simp⟩,h3⟩
theorem RowAt.isSome {w:World} {A:Option Addr} {xs:List Value} (h:RowAt w A xs) {j:Nat} (hj:j < xs.length):A.isSome=true:=by
 obtain⟨a,h1,_⟩:=h j _ (List.getElem?_eq_getElem hj)
 simp[h1]
theorem cell_keep {w w':World} (k:Fresh w w') {a:Addr} (ha:a.block < w.heap.size):w'.cell? a=w.cell? a:=by
 unfold World.cell?
 rw[k.block _ ha]
theorem RowAt.keep {w w':World} {A:Option Addr} {xs:List Value} (h:RowAt w A xs) (k:Fresh w w'):RowAt w' A xs:=by
 intro j u hj
 obtain⟨a,h1,h2,h3⟩:=h j u hj
 refine⟨a,h1,Nat.lt_of_lt_of_le h2 k.size,?_⟩
 rw[cell_keep k (by rw[zj1h]; exact h2)]; exact h3
theorem RowAt.pre {w:World} {A:Option Addr} {xs ys:List Value} (h:RowAt w A (xs++ys)):RowAt w A xs:=by
 intro j u hj
 refine h j u ?_
 rw[List.getElem?_append_left (List.getElem?_eq_some_iff.1 hj).1]; exact hj
theorem RowAt.rd {w:World} {A:Option Addr} {xs:List Value} {nt:Nat} (h:RowAt w A xs) (h1:∀ u ∈ xs,u.oneCell'=true):RdOld ⟨w,w.heap.size,[],nt,[]⟩ A xs.length xs:=by
 refine⟨rfl,fun hp=>?_,h1⟩
 obtain⟨a,ha,hb,_⟩:=h 0 _ (List.getElem?_eq_getElem hp)
 refine⟨a,ha,⟨hb,by simp⟩,fun j u hj=>?_⟩
 obtain⟨a',ha',_,hc⟩:=h j u hj
 rw[ha] at ha'; injection ha' with ha'; subst ha'; exact hc
theorem RowAt.of_own {w:World} {N:Nat} {t:TypeId} {sz n:Nat} {v:Value} {xs:List Value} {A:Option Addr} {c:Nat} (h:World.ownsB w N t sz v n xs) (hv:v=.slice A n c):RowAt w A xs:=by
 obtain⟨hl,⟨A',h1,h2,_⟩ | ⟨g,b,cap,cur,h1,h2,h3,h4,h5,h6,h7⟩⟩:=h
 ·intro j u hj
  have:=(List.getElem?_eq_some_iff.1 hj).1
  rw[hl,h2] at this; simp at this
 ·intro j u hj
  rw[hv] at h1; injection h1 with h1; subst h1
  have hlt:=(Array.getElem?_eq_some_iff.1 h3).1
  refine⟨_,rfl,hlt,?_⟩
  rw[add_lit,cell_of_row w g _ cur t (0,0) h3]
  rw[← h7,List.getElem?_take] at hj
  split at hj
  ·rw[List.getElem?_drop] at hj; simpa using hj
  ·cases hj
theorem HeapOk.owns {b:World} {N nt:Nat} {mk:List Nat} {H:List SO} {W:World} (h:HeapOk ⟨b,N,[],nt,mk⟩ H W) {i:Nat} {t:TypeId} {ver sz n c:Nat} {A:Option Addr} {xs:List Value} (hi:nth H i=some (.own t ver sz A n c xs)) :
  World.ownsB W N t sz (.slice A n c) n xs:=by
 have fr:∀ g,A.map (·.block)=some g→N≤g:=fun g hg=>by
  have:=(h.fresh i _ g hi hg).2
  simpa only[Env.old,List.not_mem_nil,not_false_eq_true,and_true,Nat.not_lt] using this
 obtain⟨hl,⟨rfl,rfl,hA⟩ | ⟨g,b,cur,rfl,hg,h1,h2,h3,h4⟩⟩:=h.ents i _ hi
 ·exact⟨hl,.inl ⟨A,rfl,rfl,fun a ha=>⟨fr _ (by rw[ha]; rfl),hA a ha⟩⟩⟩
 ·exact⟨hl,.inr ⟨g,b,c,cur,rfl,fr g rfl,hg,h1,h2,h3,h4⟩⟩
theorem HeapOk.fresh' {b:World} {nt:Nat} {mk:List Nat} {H:List SO} {W:World} (h:HeapOk ⟨b,b.heap.size,[],nt,mk⟩ H W):Fresh b W :=
 h.keep.mono fun j hj=>⟨hj,by simp⟩
theorem HeapOk.gain {E:Env} {H:List SO} {W W':World} {t:TypeId} {sz n:Nat} {xs:List Value} {v:Value} (hW:HeapOk E H W) (hr:World.ownsB W' W.heap.size t sz v n xs) (hk:Fresh W W') :
  ∃ A c,v=.slice A n c∧HExt H (H++[.own t 0 sz A n c xs])∧HeapOk E (H++[.own t 0 sz A n c xs]) W'∧Is (H++[.own t 0 sz A n c xs]) (.own H.length 0) v:=by
 obtain⟨hl,⟨A,rfl,rfl,hA⟩ | ⟨g,b,cap,cur,rfl,hge,hg,h1,h2,h3,h4⟩⟩:=hr
 ·refine⟨A,0,rfl,HExt.push _ _,?_,?_⟩
  ·refine hW.pushG (row:=none) hk.size hk.os hk.tape hk.output (fun j hj _=>hk.block j hj) (fun _ e=>by cases e) (fun g' hg'=>?_) ⟨hl,.inl ⟨rfl,rfl,fun a ha=>(hA a ha).2⟩⟩
   cases A with
   | none=>cases hg'
   | some a =>
    simp only[SO.fp,Option.map_some,Option.some.injEq] at hg'; subst hg'
    obtain⟨h1,o,h2⟩:=hA a rfl
    exact⟨.inr h1,(Array.getElem?_eq_some_iff.1 h2).1⟩
  ·simp only[Is]; exact⟨t,0,sz,A,0,0,xs,by rw[nth_eq]; simp,Nat.le_refl _,⟨_,_,_,rfl⟩,fun _=>rfl⟩
 ·refine⟨some ⟨g,b,none⟩,cap,rfl,HExt.push _ _,?_,?_⟩
  ·refine hW.pushG (row:=none) hk.size hk.os hk.tape hk.output (fun j hj _=>hk.block j hj) (fun _ e=>by cases e) (fun g' hg'=>?_) ⟨hl,.inr ⟨g,b,cur,rfl,hg,h1,h2,h3,h4⟩⟩
   simp[SO.fp] at hg'; subst hg'
   exact⟨.inr hge,(Array.getElem?_eq_some_iff.1 hg).1⟩
  ·simp only[Is]; exact⟨t,0,sz,some ⟨g,b,none⟩,n,cap,xs,by rw[nth_eq]; simp,Nat.le_refl _,⟨_,_,_,rfl⟩,fun _=>rfl⟩
theorem HeapOk.cap {E:Env} {H:List SO} {W:World} (h:HeapOk E H W) {i:Nat} {t:TypeId} {ver sz n c:Nat} {A:Option Addr} {xs:List Value} (hi:nth H i=some (.own t ver sz A n c xs)):n≤c:=by
 rcases (h.ents i _ hi).2 with⟨h1,h2,_⟩ | ⟨_,_,_,_,_,h1,_⟩ <;> omega
theorem HeapOk.rowAt {b:World} {N nt:Nat} {mk:List Nat} {H:List SO} {W:World} (h:HeapOk ⟨b,N,[],nt,mk⟩ H W) {i:Nat} {t:TypeId} {ver sz n c:Nat} {A:Option Addr} {xs:List Value} (hi:nth H i=some (.own t ver sz A n c xs)):RowAt W A xs :=
 .of_own (h.owns hi) rfl
theorem zj2j {α:Type} {f:α→List Value} {sz:Nat} (hf:∀ x,(f x).length=sz) (l:List α):(l.flatMap f).length=l.length*sz:=by
 induction l with
 | nil=>simp
 | cons x l ih=>simp only[List.flatMap_cons,List.length_append,hf,ih,List.length_cons]; rw[Nat.add_mul]; omega
theorem zj33 {α:Type} {f:α→List Value} {sz:Nat} (hf:∀ x,(f x).length=sz):∀ (l:List α) {i k:Nat} (hi:i < l.length),k < sz→(l.flatMap f)[i*sz+k]? = (f l[i])[k]?
 | x :: l,0,k,_,hk=>by
  simp only[List.flatMap_cons,Nat.zero_mul,Nat.zero_add,List.getElem_cons_zero]
  rw[List.getElem?_append_left (by rw[hf]; exact hk)]
 | x :: l,i+1,k,hi,hk=>by
  simp only[List.flatMap_cons,List.getElem_cons_succ]
  rw[List.getElem?_append_right (by rw[hf,Nat.add_mul]; omega),hf]
  rw[← zj33 hf l (by simpa using hi) hk]
  congr 1; rw[Nat.add_mul]; omega
attribute [go_sem] leH_nil leH_cons leF_nil
theorem Rep.lq {E:Env} {s s1:SS} {a:Act} {W:World} (rep:Rep E s a W) (h:leF s1.H.length s.F s1.F:=by (simp only[go_sem,lk,Nat.reduceBEq,Nat.reduceLT,Nat.reduceAdd] <;> try simp)) (k:leH s1.H.length s.H s1.H:=by (simp only[go_sem,lk,Nat.reduceBEq,Nat.reduceLT,Nat.reduceAdd] <;> try simp)):Rep E s1 a W:=rep.le h k
theorem HeapOk.putObj {E:Env} {H:List SO} {W:World} (h:HeapOk E H W) {i g:Nat} {o:Obj} (hi:nth H i=some (.obj g o)) (o':Obj) :
  HExt H (setn H i (.obj g o'))∧HeapOk E (setn H i (.obj g o')) (W.putObj g o'):=by
 have x:HExt H (setn H i (.obj g o')):=HExt.setBlk hi rfl rfl
 have hlt:=(h.fresh i _ g hi rfl).1
 refine⟨x,h.set hi x (fun g' hg=>.inl hg) (fun g' hg _=>World.putObj_heap_other (fun e=>hg (by rw[e]; rfl))) (by simp) rfl rfl rfl ?_⟩
 exact World.putObj_heap_same hlt
abbrev cxR (P:Program) (keep:List Nat) (tab:Nat→XC) (l:Nat) (Q:Post):Cx:=⟨some l,P,zj0p,Q,keep,tab⟩
theorem zj0c {P:Program} {keep:List Nat} {tab:Nat→XC} {l:Nat} {Q:Post} (hQ:zj0e Q) {E:Env} (n:Nat) {k:List KI} {s:SS} (h:Y (cxR P keep tab l Q) E n k s.F s.H):G (cxR P keep tab l Q) E k s :=
 Y_run rfl hQ n h
structure RecOk (P:Program) (nt:Nat) (tab:Nat→XC) (s:SS) (ps:List Nat) (as bd:XC) (rec:Loop):Prop where
 state:rec.state=.ready
 pending:rec.pending=none
 params:rec.params.toList=ps
 assign:∃ n,cmp P zj0p nt rec.assign=some (expand tab n as)
 body:∃ n,cmp P zj0p nt rec.body=some (expand tab n bd)
 size:rec.tmps.size=nt
 frame:∀ d,Is s.H (lk s.F d) (rec.tmps.getD d undef)
inductive Jump where
 | ret
 | exit (id:Nat)
def Jump.code:Jump→Code
 | .ret=>.ret
 | .exit id=>.exit id
def Jump.xc:Jump→XC
 | .ret=>.ret
 | .exit id=>.exit id
def setPs (F:List (Nat × SV)):List Nat→List SV→List (Nat × SV)
 | p :: ps,v :: vs=>setPs ((p,v) :: F) ps vs
 | _,_=>F
theorem setPs_is {H:List SO}:∀ (ps:List Nat) (svs:List SV) (vs:List Value) (F:List (Nat × SV)) (t:Array Value),IsL H svs vs→(∀ p ∈ ps,p < t.size)→(∀ d,Is H (lk F d) (t.getD d undef))→ps.length=svs.length →
  (((ps.zip vs).foldl (fun t (p,v)=>t.setIfInBounds p v) t).size=t.size)∧∀ d,Is H (lk (setPs F ps svs) d) (((ps.zip vs).foldl (fun t (p,v)=>t.setIfInBounds p v) t).getD d undef)
 | [],[],vs,F,t,hi,hp,hf,hl=>by simp only[IsL] at hi; subst hi; exact⟨rfl,hf⟩
 | [],_ :: _,_,_,_,_,_,_,hl=>by simp at hl
 | _ :: _,[],_,_,_,_,_,_,hl=>by simp at hl
 | p :: ps,sv :: svs,vs,F,t,hi,hp,hf,hl=>by
  simp only[IsL] at hi
  obtain⟨v,vs',h1,h2,rfl⟩:=hi
  have:=setPs_is ps svs vs' ((p,sv) :: F) (t.setIfInBounds p v) h2 (fun q hq=>by simpa using hp q (by simp[hq])) (fun d=>?_) (by simpa using hl)
  ·simpa [setPs] using this
  ·simp only[lk]
   cases hb:p == d with
   | true =>
    have:p=d:=by simpa using hb
    subst this
    have hlt:=hp p (by simp)
    simp only[Array.getD_eq_getD_getElem?,Array.getElem?_setIfInBounds_self_of_lt hlt,Option.getD_some]
    exact h1
   | false =>
    have:p ≠ d:=by simpa using hb
    simp only[Array.getD_eq_getD_getElem?,Array.getElem?_setIfInBounds_ne this]
    rw[← Array.getD_eq_getD_getElem?]
    exact hf d
def Jump.at:Jump→Exit
 | .ret=>.ret
 | .exit id=>.exit id
theorem HeapOk.env {E E':Env} (hb:E'.b=E.b) (hN:E'.N=E.N) (hs:E'.stolen=E.stolen) {H:List SO} {W:World} (h:HeapOk E H W):HeapOk E' H W:=by
 obtain⟨b,N,st,nt,mk⟩:=E
 obtain⟨b',N',st',nt',mk'⟩:=E'
 simp only at hb hN hs
 subst hb; subst hN; subst hs
 exact⟨h.keep,h.floor,h.ents,h.fresh,h.dist⟩
theorem HExt.trans' {A B C:List SO} (h:HExt A B) (k:HExt B C):HExt A C where
 blk i g hi:=k.blk i g (h.blk i g hi)
 own i t ver sz A n c xs hi:=by
  obtain⟨t1,v1,s1,A1,n1,c1,x1,h1,l1,e1⟩:=h.own i t ver sz A n c xs hi
  obtain⟨t2,v2,s2,A2,n2,c2,x2,h2,l2,e2⟩:=k.own i _ _ _ _ _ _ _ h1
  refine⟨t2,v2,s2,A2,n2,c2,x2,h2,Nat.le_trans l1 l2,fun e=>?_⟩
  have g1:v1=ver:=by omega
  have g2:v2=v1:=by omega
  obtain⟨a1,a2,a3⟩:=e1 g1
  obtain⟨b1,b2,b3⟩:=e2 g2
  exact⟨b1.trans a1,b2.trans a2,b3.trans a3⟩
theorem rec_ready {rec:Loop} (h1:rec.state=.ready) (h2:rec.pending=none):({ rec with state:=.ready,pending:=none }:Loop)=rec:=by
 cases rec
 simp only at h1 h2
 simp[h1,h2]
def bsv:Bool→SV
 | true=>.bt
 | false=>.bf
theorem zj0x {C':Cx} {E E':Env} (hEb:E'.b=E.b) (hEN:E'.N=E.N) (hEs:E'.stolen=E.stolen) {keep:List Nat} {tab:Nat→XC} {s s':SS} {ps:List Nat} {as bd:XC} {rec:Loop} (hrec:RecOk C'.P E.nt tab s ps as bd rec)
  (hps:∀ p ∈ ps,p < E.nt) {d:Option Nat} {f:Operand} {args:List Operand} {l:List XS} {k:List KI} {lno i:Nat} (hf:den s'.H (ev s'.F f)=some (.func (.yield lno) #[] #[]))
  (hlen:ps.length=args.length) (hi:nth s'.H i=some (.obj lno (.loop rec))) (hx:HExt s.H s'.H)
  (round:∀ (J:Act→World→Prop) (Q':Post),zj0e Q' →
   (∀ F1 H1,nth H1 i=some (.obj lno (.loop rec))→G (cxR C'.P keep tab lno Q') { E with marks:=[] } [.code bd] { F:=F1,H:=setn H1 i (.obj lno (.loop { rec with state:=.busy })) } →
    ∀ a W,Rep { E with marks:=[] } { F:=F1,H:=H1 } a W→J a W) →
   (∀ H2,nth H2 i=some (.obj lno (.loop { rec with state:=.busy }))→HExt s'.H H2→G C' E' (.ops l :: k) { F:=putF s'.F d .bt,H:=setn H2 i (.obj lno (.loop rec)) } →
    ∀ F2 a W,Rep { E with marks:=[] } { F:=F2,H:=H2 } a W→Q' .normal a W) →
   (∀ j H2,nth H2 i=some (.obj lno (.loop { rec with state:=.busy }))→HExt s'.H H2→G C' E' (.ops l :: k) { F:=putF s'.F d .bf,H:=setn H2 i (.obj lno (.loop { rec with state:=.done,pending:=some (Jump.code j) })) } →
    ∀ F2 a W,Rep { E with marks:=[] } { F:=F2,H:=H2 } a W→Q' j.at a W) →
   G (cxR C'.P keep tab lno fun _ _ _=>False) { E with marks:=[] } [.code as,.lend J] { F:=setPs s.F ps (evL s'.F args),H:=s'.H }) :
  G C' E' (.ops ({ dst:=d,guard:=none,i:=.callv f args } :: l) :: k) s':=by
 intro a W rep ops ol hol
 obtain⟨q,rest,rfl,ho,hl⟩:=zj11 hol
 obtain⟨op,rfl,hd,hdst,hg,hi'⟩:=zj10 ho rfl
 obtain⟨c,hop,hcal,hargs'⟩:=zj3v hi'
 have hn:=zj28 hi' (by simp)
 have hw:=zj0r hg a
 have hrl:W.heap[lno]? = some (.loop rec):=rep.heap.ents i _ hi
 have hfv:a.eval f=.func (.yield lno) #[] #[]:=den_is _ hf (rep.ev f)
 have hL:=rep.evL args
 show stepS C'.r C'.P ops _ op _ a W
 unfold stepS
 rw[if_pos hw,zj32 hop hn]
 refine⟨fun _ _=>trivial,?_⟩
 have hnd:∀ c',op.op ≠ .defer c':=by intro c' e; rw[hop] at e; cases e
 have hsz:(c.args.map a.eval).size=rec.params.size:=by
  rw[Array.size_map,← Array.length_toList,hargs',← hlen,← hrec.params,Array.length_toList]
 have hrun:(execOp a.eval op).run C'.P W=.ok (.round lno rec.fn ((rec.params.zip (c.args.map a.eval)).foldl (fun tmps (t,v)=>tmps.setIfInBounds t v) rec.tmps) rec.assign rec.body) W:=by
  simp only[execOp,hop,resolve,hcal,hfv,Deferred.ofValue,Sem.run_bind,Sem.run_pure,Result.andThen_ok,invoke,Array.append_empty,Array.empty_append]
  exact run_yield hrl hsz
 rw[Oper.semAt_eq _ _ _ hnd,hrun]
 refine⟨fun h=>by simp[WF,Fence.wide] at h,?_⟩
 -- what is owed behind the round
 let Rr:Ending→World→Prop:=fun e W''=>match e with
  | .returned v=>wpS C'.r C'.P ops (denK C'.tab C'.r C'.P C'.ord E'.nt C'.Q k) rest (a.put op.dst v) W''
  | _=>False
 have back:∀ (b:Bool) (st:LoopState) (pe:Option Code) (H2:List SO) (W2:World),nth H2 i=some (.obj lno (.loop { rec with state:=.busy }))→HExt s'.H H2→HeapOk E H2 W2 →
   G C' E' (.ops l :: k) { F:=putF s'.F d (bsv b),H:=setn H2 i (.obj lno (.loop { rec with state:=st,pending:=pe })) } →
   Rr (.returned (.bool b)) (W2.putObj lno (.loop { rec with state:=st,pending:=pe })):=by
  intro b st pe H2 W2 h2 hx2 hh hG
  obtain⟨x3,hh3⟩:=hh.putObj h2 (.loop { rec with state:=st,pending:=pe })
  have rep3:=rep.ext (hx2.trans' x3) (hh3.env hEb hEN hEs)
  have hdst':d=op.dst:=hdst
  have rep4:=rep3.put (d:=d) (sv:=bsv b) (v:=.bool b) (fun m hm=>hd m (by rw[← hdst']; exact hm)) (by cases b <;> simp[Is,bsv])
  have:=hG (a.put op.dst (.bool b)) _ (by rw[← hdst']; exact rep4) ops rest hl
  exact this
 let Q':Post:=fun e a w=>match e with
  | .normal=>roundPost C'.P lno Rr .normal a w
  | .ret=>roundPost C'.P lno Rr .ret a w
  | .exit id=>roundPost C'.P lno Rr (.exit id) a w
  | _=>False
 have hQ':zj0e Q':=fun _ _ _ h=>h
 let J:Act→World→Prop:=fun a₁ w₁=>∃ w₂,(Instr.beginRound lno).run C'.P w₁=.ok () w₂∧rec.body.wpIn ((WF C'.r).inRound lno) 0 C'.P (roundPost C'.P lno Rr) a₁ w₂
 have hG:=round J Q' hQ' ?beg ?norm ?jump
 case beg =>
  intro F1 H1 h1 hG1 a1 W1 rep1
  have hl1:W1.heap[lno]? = some (.loop rec):=rep1.heap.ents i _ h1
  refine⟨_,run_beginRound hl1 hrec.state,?_⟩
  obtain⟨x2,hh2⟩:=rep1.heap.putObj h1 (.loop { rec with state:=.busy })
  have rep2:Rep { E with marks:=[] } { F:=F1,H:=setn H1 i (.obj lno (.loop { rec with state:=.busy })) } a1 _:=rep1.ext x2 hh2
  obtain⟨nb,hb⟩:=hrec.body
  have:=hG1 a1 _ rep2 nb rec.body hb
  refine wpIn_mono this fun e a2 w2 hq=>?_
  cases e with
  | normal=>exact hq
  | ret=>exact hq
  | exit id=>exact hq
  | goto _=>exact hq.elim
  | panic _=>exact hq.elim
  | outgrown=>exact hq.elim
 case norm =>
  intro H2 h2 hx2 hG2 F2 a2 W2 rep2
  have hl2:W2.heap[lno]? = some (.loop { rec with state:=.busy }):=rep2.heap.ents i _ h2
  refine⟨_,_,run_endRound none hl2,?_⟩
  have hh:HeapOk E H2 W2:=HeapOk.env (E:={ E with marks:=[] }) (E':=E) rfl rfl rfl rep2.heap
  exact back true .ready none H2 W2 h2 hx2 hh (by rw[rec_ready hrec.state hrec.pending]; exact hG2)
 case jump =>
  intro j H2 h2 hx2 hG2 F2 a2 W2 rep2
  have hl2:W2.heap[lno]? = some (.loop { rec with state:=.busy }):=rep2.heap.ents i _ h2
  have hh:HeapOk E H2 W2:=HeapOk.env (E:={ E with marks:=[] }) (E':=E) rfl rfl rfl rep2.heap
  cases j with
  | ret=>exact⟨_,_,run_endRound (some .ret) hl2,back false .done (some .ret) H2 W2 h2 hx2 hh hG2⟩
  | exit id=>exact⟨_,_,run_endRound (some (.exit id)) hl2,back false .done (some (.exit id)) H2 W2 h2 hx2 hh hG2⟩
 have hri:RoundIn (WF C'.r) 0 C'.P lno rec.fn ((rec.params.zip (c.args.map a.eval)).foldl (fun tmps (t,v)=>tmps.setIfInBounds t v) rec.tmps) rec.assign rec.body W Rr:=by
  refine roundIn_of_wpIn trivial ?_
  have hfold:(rec.params.zip (c.args.map a.eval)).foldl (fun tmps (t,v)=>tmps.setIfInBounds t v) rec.tmps=(ps.zip (args.map a.eval)).foldl (fun t (p,v)=>t.setIfInBounds p v) rec.tmps:=by
   rw[← hrec.params,← hargs',← Array.foldl_toList,Array.toList_zip,Array.toList_map]
  obtain⟨g1,g2⟩:=setPs_is (H:=s'.H) ps (evL s'.F args) (args.map a.eval) s.F rec.tmps hL (fun p hp=>by rw[hrec.size]; exact hps p hp) (fun d=>(hrec.frame d).ext hx)
   (by rw[hlen,← hL.length,List.length_map])
  obtain⟨na,ha⟩:=hrec.assign
  have:=hG { tmps:=(rec.params.zip (c.args.map a.eval)).foldl (fun tmps (t,v)=>tmps.setIfInBounds t v) rec.tmps,defers:=[] } W
   ⟨by rw[hfold]; exact g1.trans hrec.size,fun d=>by rw[hfold]; exact g2 d,rfl,HeapOk.env (E:=E') (E':={ E with marks:=[] }) hEb.symm hEN.symm hEs.symm rep.heap⟩ na rec.assign ha
  refine wpIn_mono this fun e a2 w2 hq=>?_
  cases e with
  | normal=>exact hq
  | ret=>exact hq.elim
  | exit id=>exact hq.elim
  | goto _=>exact hq.elim
  | panic _=>exact hq.elim
  | outgrown=>exact hq.elim
 refine RoundIn.mono hri ?_
 intro e W'' he
 cases e with
 | returned v=>exact he
 | panicked ch=>exact he.elim
 | outgrown=>exact he.elim
theorem Rep.mark {E:Env} {s:SS} {H:List SO} {a:Act} {W W4:World} {D:Nat} (rep:Rep E s a W) (x:HExt s.H H) (h:HeapOk E H W4) :
  Rep { E with marks:=D :: E.marks } { F:=s.F,H:=H } { a with defers:=[{ target:=.collected D,args:=#[] }]++a.defers } W4 :=
 ⟨rep.size,fun d=>(rep.frame d).ext x,by show _++a.defers=_; rw[rep.defers]; rfl,HeapOk.env (E:=E) (E':={ E with marks:=D :: E.marks }) rfl rfl rfl h⟩
theorem zj34 {C:Cx} (hr:C.r=none) (ho:C.ord=zj0p) {E:Env} {g:Operand} {ps:List Nat} {as bd:XC} {k:List KI} {s:SS} {gf:FuncId} {caps:List Value}
  (hg:den s.H (ev s.F g)=some (.func (.func gf) #[] caps.toArray)) (hok:fnOk C.P gf=true)
  (it:∀ (D l:Nat) (rec:Loop),RecOk C.P E.nt C.tab s ps as bd rec→∀ (R':Value→World→Prop),
   (∀ Hend v W3,nth Hend (s.H.length+1)=some (.obj l (.loop rec))→HExt s.H Hend→HeapOk E Hend W3 →
    G C { E with marks:=D :: E.marks } k { F:=s.F,H:=setn Hend (s.H.length+1) (.obj l (.loop { rec with state:=.exhausted })) }→R' v W3) →
   (∀ j Hend v W3,nth Hend (s.H.length+1)=some (.obj l (.loop { rec with state:=.done,pending:=some (Jump.code j) }))→HExt s.H Hend→HeapOk E Hend W3 →
    G C { E with marks:=D :: E.marks } (.code j.xc :: k) { F:=s.F,H:=setn Hend (s.H.length+1) (.obj l (.loop { rec with state:=.exhausted,pending:=some (Jump.code j) })) }→R' v W3) →
   ∀ W1,HeapOk E (s.H++[.obj D (.deferred (some []))]++[.obj l (.loop rec)]) W1→CallsV C.P gf (.func (.yield l) #[] #[] :: caps) W1 R') :
  G C E (.code (.rng g ps as bd) :: k) s:=by
 intro a W rep nx cc hc
 rw[expand_rng] at hc
 obtain⟨ps',c1,c2,rfl,hps,h1,h2⟩:=cmp_rng hc
 have hgv:a.eval g=.func (.func gf) #[] caps.toArray:=den_is _ hg (rep.ev g)
 refine wpIn_rangeFunc (F:=WF C.r) ?_
 intro fn _
 have hround:(WF C.r).round=none:=hr
 let rec':Loop:={ state:=.ready,pending:=none,fn,tmps:=a.tmps,params:=ps',assign:=c1,body:=c2,defers:=W.heap.size }
 let W0:=W.alloc (.deferred (some []))
 let W1:=W0.alloc (.loop rec')
 have hh0:HeapOk E (s.H++[.obj W.heap.size (.deferred (some []))]) W0:=rep.heap.push _ _ rfl (World.alloc_heap_new W _)
 have hsz:W0.heap.size=W.heap.size+1:=by simp[W0]
 have hh1:HeapOk E (s.H++[.obj W.heap.size (.deferred (some []))]++[.obj (W.heap.size+1) (.loop rec')]) W1:=by
  have:=hh0.push (.loop rec') (.obj W0.heap.size (.loop rec')) rfl (World.alloc_heap_new W0 _)
  rw[hsz] at this; exact this
 have hrec:RecOk C.P E.nt C.tab s ps as bd rec':=⟨rfl,rfl,hps,⟨nx,by rw[← ho]; exact h1⟩,⟨nx,by rw[← ho]; exact h2⟩,rep.size,rep.frame⟩
 refine⟨W.heap.size+1,[{ target:=.collected W.heap.size,args:=#[] }],W1,{ target:=.fn (.func gf) caps.toArray,args:=#[.func (.yield (W.heap.size+1)) #[] #[]] },W1,gf,#[.func (.yield (W.heap.size+1)) #[] #[]]++caps.toArray,W1,?_,?_,fun _ _=>trivial,?_,fun h=>by simp[WF,Fence.wide] at h,?_⟩
 ·rw[hround]; exact run_enterLoop_outer _ _ _ _ _
 ·have ec:a.eval (.const (.func (.yield (W.heap.size+1)) #[] #[]))=.func (.yield (W.heap.size+1)) #[] #[]:=rfl
  simp[resolve,hgv,Deferred.ofValue,ec]
 ·simp only[invoke]
  exact zj0q hok _ _
 ·refine zj15.2 ?_
  have hargs:(#[.func (.yield (W.heap.size+1)) #[] #[]]++caps.toArray:Array Value)=(.func (.yield (W.heap.size+1)) #[] #[] :: caps).toArray:=by simp
  rw[hargs]
  refine Calls.mono (it W.heap.size (W.heap.size+1) rec' hrec (fun v W3=>rangePost (WF C.r) 0 C.P (W.heap.size+1) (denK C.tab C.r C.P C.ord E.nt C.Q k) { a with defers:=[{ target:=.collected W.heap.size,args:=#[] }]++a.defers } (.returned v) W3) ?_ ?_ W1 hh1) fun e w' he=>?_
  ·intro Hend v W3 hn hx hh hG
   have hl:W3.heap[W.heap.size+1]? = some (.loop rec'):=hh.ents _ _ hn
   obtain⟨x3,hh3⟩:=hh.putObj hn (.loop { rec' with state:=.exhausted })
   refine⟨none,_,run_endLoop hl (by simp[rec']),?_⟩
   exact hG _ _ (rep.mark (hx.trans' x3) hh3)
  ·intro j Hend v W3 hn hx hh hG
   have hl:W3.heap[W.heap.size+1]? = some (.loop { rec' with state:=.done,pending:=some (Jump.code j) }):=hh.ents _ _ hn
   obtain⟨x3,hh3⟩:=hh.putObj hn (.loop { rec' with state:=.exhausted,pending:=some (Jump.code j) })
   refine⟨some (Jump.code j),_,run_endLoop hl (by simp),?_⟩
   have:=hG _ _ (rep.mark (hx.trans' x3) hh3) 0 (Jump.code j) (by cases j <;> rfl)
   exact this
  ·cases e with
   | returned v=>exact he
   | panicked ch=>exact he.elim
   | outgrown=>exact he.elim
def zj79 (P:Program) (fn:Func) (R:Value→World→Prop):Post
 | .normal,a,w | .ret,a,w=>LeavesInM (WF none) 0 P fn a.tmps (fun e w'=>match e with | .returned v=>R v w' | _=>False) a.defers .returning w
 | _,_,_=>False
theorem zj1z (P:Program) (fn:Func) (R:Value→World→Prop):zj0e (zj79 P fn R):=fun _ _ _ h=>h
abbrev cxM (P:Program) (fn:Func) (keep:List Nat) (tab:Nat→XC) (R:Value→World→Prop):Cx:=⟨none,P,zj0p,zj79 P fn R,keep,tab⟩
theorem Y_goM {P:Program} {fn:Func} {keep:List Nat} {tab:Nat→XC} {R:Value→World→Prop} {E:Env} (n:Nat) {k:List KI} {s:SS} (h:Y (cxM P fn keep tab R) E n k s.F s.H):G (cxM P fn keep tab R) E k s :=
 Y_run rfl (zj1z P fn R) n h
theorem zj4j {E:Env} {H:List SO} {W:World} {nt:Nat} {args:List Value} {svs:List SV} (hE:E.nt=nt) (hm:E.marks=[]) (hlen:args.length≤nt) (hH:HeapOk E H W) (ha:IsL H svs args) :
  Rep E { F:=numF 0 svs,H:=H } { tmps:=args.toArray++Array.replicate (nt - args.toArray.size) undef,defers:=[] } W:=by
 refine⟨by simp[hE]; omega,fun d=>?_,by simp[hm],hH⟩
 obtain⟨_,h2,h3⟩:=lk_numF svs 0 d
 have hll:=ha.length
 cases hs:svs[d]? with
 | none =>
  have:=h3 (Nat.zero_le _) (by simpa using hs)
  show Is H (lk (numF 0 svs) d) _
  rw[this]; simp[Is]
 | some s =>
  have:=h2 s (Nat.zero_le _) (by simpa using hs)
  show Is H (lk (numF 0 svs) d) _
  rw[this]
  obtain⟨u,hu,hi⟩:=ha.get hs
  have hlt:d < args.length:=(List.getElem?_eq_some_iff.1 hu).1
  have e:(args.toArray++Array.replicate (nt - args.toArray.size) undef).getD d undef=u:=by
   rw[Array.getD_eq_getD_getElem?,Array.getElem?_append_left (by simpa using hlt)]
   simp[hu]
  rw[e]; exact hi
theorem zj3j {P:Program} {f:FuncId} {fn:Func} {xc:XC} {args:List Value} {w:World} {R:Value→World→Prop} {keep:List Nat} {tab:Nat→XC} {svs:List SV} {nt m:Nat}
  (hf:P.funcs[f]? = some fn) (hc:cmpF P fn=some (expand tab m xc)) (hn:fn.ntmps=nt) (hlen:args.length≤nt) (ha:IsL [] svs args)
  (h:∀ R':Value→World→Prop,(∀ v W,R v W→R' v W)→G (cxM P fn keep tab R') ⟨w,w.heap.size,[],nt,[]⟩ [.code xc] { F:=numF 0 svs,H:=[] }):CallsV P f args w R:=by
 obtain⟨c,hb,hc⟩:=zj3h hc
 refine zj15 (r:=none) (n:=0) |>.1 ?_
 refine callsIn_of_wp_marks hf hb trivial ?_ rfl
 have hrep:=zj4j (E:=⟨w,w.heap.size,[],nt,[]⟩) (H:=[]) (W:=w) (nt:=fn.ntmps) hn.symm rfl (by omega) (zj5z (Nat.le_refl _) _ _ _) ha
 have hw:=h R (fun _ _ h=>h) _ w hrep m c (by rw[← hn]; exact hc)
 refine wpIn_mono hw fun e a' w' hq=>?_
 cases e with
 | normal=>exact hq
 | ret=>exact hq
 | exit id=>exact hq.elim
 | goto l=>exact hq.elim
 | panic ch=>exact hq.elim
 | outgrown=>exact hq.elim
theorem zj2k {P:Program} {f:FuncId} {fn:Func} {xc:XC} {args:List Value} {w:World} {R:Value→World→Prop} {keep:List Nat} {tab:Nat→XC} {svs:List SV} {nt m:Nat} {E:Env} {H:List SO}
  (hf:P.funcs[f]? = some fn) (hc:cmpF P fn=some (expand tab m xc)) (hn:fn.ntmps=nt) (hlen:args.length≤nt) (hH:HeapOk E H w) (ha:IsL H svs args)
  (h:G (cxOf P fn keep tab R) { E with nt:=nt,marks:=[] } [.code xc] { F:=numF 0 svs,H:=H }):CallsV P f args w R:=by
 obtain⟨c,hb,hc⟩:=zj3h hc
 exact calls_G hf hb hc hn.symm rfl (by omega) (HeapOk.env (E:=E) (E':={ E with nt:=nt,marks:=[] }) rfl rfl rfl hH) ha h
theorem end_mark {P:Program} {fn:Func} {R:Value→World→Prop} {E:Env} {s:SS} {ts:List Nat} {vs:List Value} {D i:Nat} (hr:resT fn.results.toList=some ts) (hm:E.marks=[D])
  (hv:denAll s.H s.F ts=some vs) (hi:nth s.H i=some (.obj D (.deferred (some [])))) (h:∀ W,HeapOk E (setn s.H i (.obj D (.deferred none))) W→R (tupOf vs) W) :
  ∀ a W,Rep E s a W→LeavesInM (WF none) 0 P fn a.tmps (fun e w'=>match e with | .returned v=>R v w' | _=>False) a.defers .returning W:=by
 intro a W rep
 have hd:a.defers=[{ target:=.collected D,args:=#[] }]:=by rw[rep.defers,hm]; rfl
 rw[hd]
 have hb:W.heap[D]? = some (.deferred (some [])):=rep.heap.ents i _ hi
 refine⟨by simp,.inl ⟨D,_,rfl,run_takeDeferred hb,?_⟩⟩
 obtain⟨x,hh⟩:=rep.heap.putObj hi (.deferred none)
 show LeavesIn _ _ _ _ _ _ [] .returning _
 refine⟨_,zj27 hr a.tmps _,?_⟩
 rw[zj2p rep ts vs hv]
 exact h _ hh
theorem zj58 {P:Program} {fn:Func} {keep:List Nat} {tab:Nat→XC} {R:Value→World→Prop} {E:Env} {s:SS} {ts:List Nat} {vs:List Value} {D:Nat} (i:Nat) (hr:resT fn.results.toList=some ts) (hm:E.marks=[D])
  (hv:denAll s.H s.F ts=some vs) (hi:nth s.H i=some (.obj D (.deferred (some [])))) (h:∀ W,HeapOk E (setn s.H i (.obj D (.deferred none))) W→R (tupOf vs) W):RetG (cxM P fn keep tab R) E s :=
 fun a W rep=>end_mark hr hm hv hi h a W rep
theorem Rep.adoptC {E:Env} {s:SS} {a:Act} {W:World} (rep:Rep E s a W) (i:Nat) {g:Nat} {tt:TypeId} (t:TypeId) (sz:Nat) (hi:nth s.H i=some (.cells g tt [.val (.slice none 0 0)])) :
  Rep E { F:=s.F,H:=setn (s.H++[.own t 0 sz none 0 0 []]) i (.cells g tt [.own s.H.length 0]) } a W:=by
 have hx:=HExt.push s.H (.own t 0 sz none 0 0 [])
 have hh:HeapOk E (s.H++[.own t 0 sz none 0 0 []]) W:=rep.heap.pushG (row:=none) (Nat.le_refl _) rfl rfl rfl (fun _ _ _=>rfl) (fun _ e=>by cases e) (fun g hg=>by simp[SO.fp] at hg) ⟨by simp,.inl ⟨rfl,rfl,fun a h=>by cases h⟩⟩
 have hi2:nth (s.H++[.own t 0 sz none 0 0 []]) i=some (.cells g tt [.val (.slice none 0 0)]):=zj04 hi
 have x2:HExt (s.H++[.own t 0 sz none 0 0 []]) (setn (s.H++[.own t 0 sz none 0 0 []]) i (.cells g tt [.own s.H.length 0])):=HExt.setBlk hi2 rfl rfl
 refine rep.ext (hx.trans' x2) (hh.set hi2 x2 (fun g' hg=>.inl hg) (fun _ _ _=>rfl) (Nat.le_refl _) rfl rfl rfl ?_)
 obtain⟨c,hc,hL⟩:=hh.ents i _ hi2
 refine⟨c,hc,?_⟩
 simp only[IsL,Is] at hL ⊢
 obtain⟨v,r,rfl,rfl,e⟩:=hL
 refine⟨_,_,⟨t,0,sz,none,0,0,[],?_,Nat.le_refl _,⟨_,_,_,rfl⟩,fun _=>rfl⟩,rfl,e⟩
 have hlt:=nth_lt hi
 rw[zj0f _ (by omega),nth_eq]; simp
theorem zj0s {C:Cx} {E:Env} {s:SS} (h:∀ a W,Rep E s a W→C.Q .normal a W):G C E [] s:=h
def bump:SO→SO→Prop
 | .own _ v _ _ _ _ _,.own _ v' _ _ _ _ _=>v < v'
 | _,_=>False
def extB:List SO→List SO→Prop
 | [],_=>True
 | e :: H,e' :: H'=>((∃ g,e.blk=some g∧e'.blk=some g)∨e'=e∨bump e e')∧extB H H'
 | _ :: _,[]=>False
theorem zj05:∀ {H H':List SO},extB H H'→HExt H H'
 | [],H',_=>⟨fun i g h=>by simp[blk,nth] at h,fun i t v s A n c xs h=>by simp[nth] at h⟩
 | _ :: _,[],h=>h.elim
 | e :: H,e' :: H',⟨h,h2⟩=>by
  have ih:=zj05 h2
  refine⟨fun i g hi=>?_,fun i t v s A n c xs hi=>?_⟩
  ·rw[blk_eq] at *
   cases i with
   | zero =>
    simp only[nth,Option.bind_some] at hi ⊢
    rcases h with⟨g',h3,h4⟩ | rfl | h
    ·rw[h3] at hi; rw[h4]; exact hi
    ·exact hi
    ·unfold bump at h
     split at h
     ·simp[SO.blk] at hi
     ·exact h.elim
   | succ i=>have:=ih.blk i g (by rw[blk_eq]; exact hi); rw[blk_eq] at this; exact this
  ·cases i with
   | zero =>
    simp only[nth] at hi ⊢
    rcases h with⟨g',h3,h4⟩ | rfl | h
    ·injection hi with hi; subst hi; simp[SO.blk] at h3
    ·exact⟨t,v,s,A,n,c,xs,hi,Nat.le_refl _,fun _=>⟨rfl,rfl,rfl⟩⟩
    ·unfold bump at h
     split at h
     ·injection hi with hi; injection hi with i1 i2 i3 i4 i5 i6 i7
      exact⟨_,_,_,_,_,_,_,rfl,by omega,fun e=>by omega⟩
     ·exact h.elim
   | succ i=>exact ih.own i t v s A n c xs hi
end Go.Sx
