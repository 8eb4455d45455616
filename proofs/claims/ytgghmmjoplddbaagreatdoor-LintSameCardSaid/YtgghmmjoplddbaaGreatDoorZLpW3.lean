/- lint: a round of the walk over the ways from a spot. -/
import Derived.Test.YtgghmmjoplddbaaGreatDoorZLpW1
set_option linter.unusedSimpArgs false
set_option linter.unusedVariables false
set_option linter.unnecessarySimpa false
namespace Go.Proofs.YtgghmmjoplddbaaGreatDoor
open Go Go.Sx Go.Isa Go.Lint
open Nat (reduceAdd reduceLT)
set_option maxRecDepth 100000
structure WG where
 gm:Nat
 gl:Nat
 B:Option Addr
 bn:Nat
 bc:Nat
 gb:Nat
 g4:Nat
 gt:Nat
 ga:Nat
 gx:Nat
 gs:Nat
 g1:Nat
 g2:Nat
 g3:Nat
 D:Nat
 lno:Nat
 s:Spot
 x:In
 set:Set8
structure WV where
 k:Nat
 v:Nat
 Af:Option Addr
 cf:Nat
 At:Option Addr
 ct:Nat
abbrev HM (w:WG) (st:St) (q:WV) (o:Obj):List SO:=[.cells w.gb 61 [.ptr 1 0],.gone w.g4,.cells w.gt 98 [.own 6 q.v],.own 68 q.v 2 q.At st.todo.length q.ct (spotsV st.todo),.cells w.ga 68 [.val (.int .i64 w.s.1),.val (.bool w.s.2)],.cells w.gx 47 (In.sv w.x),.cells w.gs 5 [.val (.int .u8 w.set.toNat)],.cells w.g1 68 [.val (.int .i64 w.s.1),.val (.bool w.s.2)],.cells w.g2 47 (In.sv w.x),.cells w.g3 61 [.val (.pointer (some ⟨w.gl,0,none⟩))],.obj w.D (.deferred (some [])),.obj w.lno o]
abbrev HS (w:WG) (st:St) (q:WV) (o:Obj) (gn:Nat) (nn:Spot):List SO:=lkE w.gm w.gl w.B w.bn w.bc st.met q.k q.Af st.fs.length q.cf (fsV st.fs)++(HM w st q o++[.cells gn 68 [.val (.int .i64 nn.1),.val (.bool nn.2)]])
abbrev walkF:List (Nat × SV):=[(1,.ptr 3 0),(2,.ptr 5 0),(3,.ptr 7 0),(4,.ptr 8 0),(5,.ptr 9 0),(58,.fn (.func 69) [] [.ptr 10 0,.ptr 11 0,.ptr 12 0])]
abbrev asX:XC:=match T19n9 with | .blk _ (.rng _ _ a _)=>a | _=>.skip
abbrev YI (w:WG):SV:=.val (.func (.yield w.lno) #[] #[])
structure WV.le (a b:WV):Prop where
 k0:a.k≤b.k
 k1:b.k≤a.k+1
 v0:a.v≤b.v
 v1:b.v≤a.v+1
abbrev HB (w:WG) (m:Met) (td:List Spot) (fs:List (Int × Int)) (q:WV) (o:Obj) (gn:Nat) (nn:Spot) (g6:Nat) (n:Spot):List SO :=
 lkE w.gm w.gl w.B w.bn w.bc m q.k q.Af fs.length q.cf (fsV fs)++([.cells w.gb 61 [.ptr 1 0],.gone w.g4,.cells w.gt 98 [.own 6 q.v],.own 68 q.v 2 q.At td.length q.ct (spotsV td),.cells w.ga 68 [.val (.int .i64 w.s.1),.val (.bool w.s.2)],.cells w.gx 47 (In.sv w.x),.cells w.gs 5 [.val (.int .u8 w.set.toNat)],.cells w.g1 68 [.val (.int .i64 w.s.1),.val (.bool w.s.2)],.cells w.g2 47 (In.sv w.x),.cells w.g3 61 [.val (.pointer (some ⟨w.gl,0,none⟩))],.obj w.D (.deferred (some [])),.obj w.lno o]++[.cells gn 68 [.val (.int .i64 nn.1),.val (.bool nn.2)],.cells g6 68 [.val (.int .i64 n.1),.val (.bool n.2)]])
def meetM (set:Set8) (m:Met) (td:List Spot) (n:Spot):Met × List Spot × Bool:=match get m n with
 | none=>(put m n (255#8 &&& set),td++[n],true)
 | some was=>if was &&& set ≠ was then (put m n (was &&& set),td++[n],true) else (m,td,false)
theorem roundB {b:World} {N:Nat} {stl:List Nat} {Q':Post} (hQ':zj0b Q') (w:WG) (m:Met) (td:List Spot) (fs:List (Int × Int)) (n:Spot) (q:WV) (o:Obj) (gn:Nat) (nn:Spot) (g6:Nat)
  (hn:0≤n.1∧n.1≤1024) (hrg:Rg m) (htd:td.length≤100000000) (hv:q.v=0∨q.v=1) {F:List (Nat × SV)} (hF:leF 17 F [(1,.ptr 3 0),(2,.ptr 5 0),(5,.ptr 9 0),(6,.ptr 16 0)])
  (hend:∀ v' At' ct',q.v≤v'→v'≤q.v+1→(v'=q.v→At'=q.At∧ct'=q.ct∧(meetM w.set m td n).2.1=td)→∀ F2 a W,Rep ⟨b,N,stl,108,[]⟩ { F:=F2,H:=HB w (meetM w.set m td n).1 (meetM w.set m td n).2.1 fs { q with v:=v',At:=At',ct:=ct' } o gn nn g6 n } a W→Q' .normal a W) :
  G (cxR Tryz.prog K19 T19 w.lno Q') ⟨b,N,stl,108,[]⟩ [.code (.ref 7),.blk 3] { F:=F,H:=HB w m td fs q o gn nn g6 n }:=by
 refine G.le (E':=⟨b,N,stl,108,[]⟩) (s':={ F:=[(1,.ptr 3 0),(2,.ptr 5 0),(5,.ptr 9 0),(6,.ptr 16 0)],H:=HB w m td fs q o gn nn g6 n }) rfl (fun a W rep=>rep.le hF (by (simp only[go_sem,lk,Nat.reduceBEq,reduceLT,reduceAdd] <;> try simp); exact rfl)) ?_
 obtain⟨k,v,Af,cf,At,ct⟩:=q
 simp only at hv
 have hfit:=fit_met hrg
 have hfn:=zj4a hn.1 hn.2
 have hget:=zj49 m n
 have hput:=putA_met m n
 have hsp:spotsV td++[Value.int IntKind.i64 n.1,Value.bool n.2]=spotsV (td++[n]):=by rw[spotsV_app]; rfl
 have push:∀ r:Set8,meetM w.set m td n=(put m n r,td++[n],true)→∀ v',v'=v+1→∀ A c g F2 a W,Rep ⟨b,N,stl,108,[]⟩ { F:=F2,H:=HB w (put m n r) (td++[n]) fs ⟨k,v',Af,cf,A,c⟩ o gn nn g6 n++[.cells g 68 [.val (.int .i64 n.1),.val (.bool n.2)]] } a W→Q' .normal a W:=by
  rintro r hmt v' rfl A c g F2 a W rep
  rw[hmt] at hend
  refine hend (v+1) A c (by show v≤v+1; omega) (by show v+1≤v+1; omega) (fun e=>by have e:v+1=v:=e; omega) [] a W (rep.le ?_ ?_)
  ·(simp only[go_sem,lk,Nat.reduceBEq,reduceLT,reduceAdd] <;> try simp)
  ·(simp only[go_sem,lk,Nat.reduceBEq,reduceLT,reduceAdd] <;> try simp); exact rfl
 have keep:∀ m',meetM w.set m td n=(m,td,m')→∀ F2 a W,Rep ⟨b,N,stl,108,[]⟩ { F:=F2,H:=HB w m td fs ⟨k,v,Af,cf,At,ct⟩ o gn nn g6 n } a W→Q' .normal a W:=by
  rintro m' hmt F2 a W rep
  rw[hmt] at hend
  exact hend v At ct (Nat.le_refl _) (by show v≤v+1; omega) (fun _=>⟨rfl,rfl,rfl⟩) F2 a W rep
 cases hg:get m n with
 | none =>
  have hmt:meetM w.set m td n=(put m n (255#8 &&& w.set),td++[n],true):=by simp[meetM,hg]
  rw[hg] at hget
  rcases hv with rfl | rfl
  all_goals (refine zj0w hQ' 600 ?_; dsimp only[go_sem,Nat.reduceBEq,reduceAdd])
  all_goals refine⟨⟨hfn,hfit⟩,none,hget,.val (.int .u8 0),rfl,?_⟩
  all_goals dsimp only[go_sem,Option.isSome,Nat.reduceBEq,reduceAdd,Nat.reduceMul]
  all_goals refine⟨fun _=>⟨fun _=>⟨_,and8 255#8 w.set,⟨hfn,hfit⟩,_,hput _,fun g=>⟨⟨by simp only[maxLen]; omega,by omega⟩,fun A c=>?_⟩⟩,fun h=>absurd h (by decide)⟩,fun h=>absurd h (by decide)⟩
  all_goals rw[hsp]
  all_goals refine zj1o fun a W rep=>push _ hmt _ rfl A c g [] a W (rep.le ?_ ?_)
  all_goals first | ((simp only[go_sem,lk,Nat.reduceBEq,reduceLT,reduceAdd] <;> try simp); done) | ((simp only[go_sem,lk,Nat.reduceBEq,reduceLT,reduceAdd] <;> try simp); exact rfl)
 | some was =>
  rw[hg] at hget
  rcases hv with rfl | rfl
  all_goals (refine zj0w hQ' 600 ?_; dsimp only[go_sem,Nat.reduceBEq,reduceAdd])
  all_goals refine⟨⟨hfn,hfit⟩,_,hget,.val (.int .u8 was.toNat),rfl,?_⟩
  all_goals dsimp only[go_sem,Option.map,Option.isSome,Nat.reduceBEq,reduceAdd,Nat.reduceMul]
  all_goals refine⟨fun h=>absurd h (by decide),fun _=>⟨fun h=>absurd h (by decide),fun _=>⟨_,and8 was w.set,⟨fun hne=>⟨_,and8 was w.set,⟨hfn,hfit⟩,_,hput _,fun g=>⟨⟨by simp only[maxLen]; omega,by omega⟩,fun A c=>?_⟩⟩,fun heq=>?_⟩⟩⟩⟩
  all_goals try rw[hsp]
  all_goals first
   | (have hne' : was &&& w.set ≠ was := fun e => by rw [e] at hne; simp at hne
      have hmt:meetM w.set m td n=(put m n (was &&& w.set),td++[n],true):=by simp[meetM,hg,hne']
      refine zj1o fun a W rep=>push _ hmt _ rfl A c g [] a W (rep.le ?_ ?_) <;> first | ((simp only[go_sem,lk,Nat.reduceBEq,reduceLT,reduceAdd] <;> try simp); done) | ((simp only[go_sem,lk,Nat.reduceBEq,reduceLT,reduceAdd] <;> try simp); exact rfl))
   | (have heq' : was &&& w.set = was := eq8.1 (by simpa using heq)
      have hmt:meetM w.set m td n=(m,td,false):=by simp[meetM,hg,heq']
      refine zj1o fun a W rep=>keep _ hmt [] a W (rep.le ?_ ?_) <;> first | ((simp only[go_sem,lk,Nat.reduceBEq,reduceLT,reduceAdd] <;> try simp); done) | ((simp only[go_sem,lk,Nat.reduceBEq,reduceLT,reduceAdd] <;> try simp); exact rfl))
theorem meet_meetM (len:Int) (set:Set8) (p:Int) (st:St) (n:Spot):meet len set p st n=⟨(meetM set st.met st.todo n).1,(meetM set st.met st.todo n).2.1,if n.2=true∧len≤n.1 then st.fs++[(5,p)] else st.fs⟩:=by
 unfold meet meetM
 cases get st.met n with
 | none=>rfl
 | some was=>by_cases h:was &&& set ≠ was <;> simp[h]
theorem zj0n {C:Cx} {E:Env} {k:List KI} {s:SS} (h:G C E k s):G C E (.ops [] :: k) s:=by
 intro a W rep ops ol hol
 have:ol=[]:=by
  cases ol with
  | nil=>rfl
  | cons x l=>simp only[cmpL] at hol; split at hol <;> simp at hol
 subst this
 exact h a W rep
theorem zj2e {t:TypeId} {k k' sz:Nat} {A A':Option Addr} {n n' c c':Nat} {xs xs':List Value} (h:(k'=k∧A'=A∧n'=n∧c'=c∧xs'=xs)∨k < k'):(∃ g,(SO.own t k sz A n c xs).blk=some g∧(SO.own t k' sz A' n' c' xs').blk=some g)∨SO.own t k' sz A' n' c' xs'=SO.own t k sz A n c xs∨bump (SO.own t k sz A n c xs) (SO.own t k' sz A' n' c' xs'):=by
 rcases h with⟨rfl,rfl,rfl,rfl,rfl⟩ | h
 ·exact .inr (.inl rfl)
 ·exact .inr (.inr h)
theorem hs_ext (w:WG) (st:St) (q q':WV) (o o':Obj) (gn g6:Nat) (nn n:Spot) (m':Met) (td':List Spot) (fs':List (Int × Int)) (hk:(q'.k=q.k∧q'.Af=q.Af∧q'.cf=q.cf∧fs'=st.fs)∨q.k < q'.k) (hv:(q'.v=q.v∧q'.At=q.At∧q'.ct=q.ct∧td'=st.todo)∨q.v < q'.v):HExt (HS w st q o gn nn) (HB w m' td' fs' q' o' gn nn g6 n):=by
 refine zj0g ⟨.inl ⟨_,rfl,rfl⟩,.inl ⟨_,rfl,rfl⟩,zj2e ?_,.inl ⟨_,rfl,rfl⟩,.inl ⟨_,rfl,rfl⟩,.inl ⟨_,rfl,rfl⟩,zj2e ?_,.inl ⟨_,rfl,rfl⟩,.inl ⟨_,rfl,rfl⟩,.inl ⟨_,rfl,rfl⟩,.inl ⟨_,rfl,rfl⟩,.inl ⟨_,rfl,rfl⟩,.inl ⟨_,rfl,rfl⟩,.inl ⟨_,rfl,rfl⟩,.inl ⟨_,rfl,rfl⟩,.inl ⟨_,rfl,rfl⟩,trivial⟩
 ·exact hk.imp (fun⟨a,b,c,d⟩=>⟨a,b,by rw[d],c,by rw[d]⟩) id
 ·exact hv.imp (fun⟨a,b,c,d⟩=>⟨a,b,by rw[d],c,by rw[d]⟩) id
theorem round39 {R':Value→World→Prop} {b:World} {N:Nat} {stl:List Nat} {mk:List Nat} {nt':Nat} (w:WG) (st:St) (n:Spot) (q:WV) (rec:Loop) (gn:Nat) (nn:Spot) (s0:SS)
  (hn:0≤n.1∧n.1≤1024) (hrg:Rg st.met) (hfs:st.fs.length≤100000000) (htd:st.todo.length≤100000000) (hv:q.v=0∨q.v=1) (hst:rec.state=.ready)
  (hrec:RecOk Tryz.prog 108 T19 s0 [59] asX (.ref 8) rec) (hF0:s0.F=walkF) (hx:HExt s0.H (HS w st q (.loop rec) gn nn))
  {d:Option Nat} {f:Operand} {args:List Operand} {l:List XS} {kk:List KI} {F':List (Nat × SV)} (hf:den (HS w st q (.loop rec) gn nn) (ev F' f)=some (.func (.yield w.lno) #[] #[])) (ha1:args.length=1) (hargs:evL F' args=[.agg [.val (.int .i64 n.1),.val (.bool n.2)]])
  {F'':List (Nat × SV)} (hF2:leF 16 (putF F' d .bt) F'')
  (next:∀ q':WV,q.le q'→(q'.k=q.k→q'.Af=q.Af∧q'.cf=q.cf∧(meet w.bn w.set w.s.1 st n).fs=st.fs)→(q'.v=q.v→q'.At=q.At∧q'.ct=q.ct∧(meet w.bn w.set w.s.1 st n).todo=st.todo) →
   G (cxOf Tryz.prog Tryz.f69 K69 T69 R') ⟨b,N,stl,nt',[]⟩ (.ops l :: kk) { F:=F'',H:=HS w (meet w.bn w.set w.s.1 st n) q' (.loop rec) gn nn }) :
  G (cxOf Tryz.prog Tryz.f69 K69 T69 R') ⟨b,N,stl,nt',[]⟩ (.ops ({ dst:=d,guard:=none,i:=.callv f args } :: l) :: kk) { F:=F',H:=HS w st q (.loop rec) gn nn }:=by
 refine zj2x (C':=cxOf Tryz.prog Tryz.f69 K69 T69 R') (E:=⟨b,N,stl,108,mk⟩) (E':=⟨b,N,stl,nt',[]⟩) (s':={ F:=F',H:=HS w st q (.loop rec) gn nn }) (i:=14) (rec:=rec) (lno:=w.lno) (keep:=K19) rfl rfl rfl hrec ?_ hf ?_ rfl hx ?_
 ·intro p hp; simp at hp; subst hp; show 59 < 108; decide
 ·exact ha1.symm
 intro J Q' hQ' hbeg hnorm _
 have hF:zj0b (fun _ _ _=>False):=fun _ _ _ h=>h
 rw[hargs,hF0]
 (refine zj0w hF 600 ?_; dsimp only[go_sem,asX,setPs,HM,reduceAdd,Nat.reduceBEq])
 refine fun g6=>zj01 fun a W rep=>hbeg _ _ rfl ?_ a W rep
 have tl:∀ (fs':List (Int × Int)) (k':Nat) (Af':Option Addr) (cf':Nat),fs'=(if n.2=true∧(w.bn:Int)≤n.1 then st.fs++[(5,w.s.1)] else st.fs)→q.k≤k'→k'≤q.k+1→((k'=q.k∧Af'=q.Af∧cf'=q.cf∧fs'=st.fs)∨q.k < k') →
   ∀ F,leF 17 F [(1,.ptr 3 0),(2,.ptr 5 0),(5,.ptr 9 0),(6,.ptr 16 0)]→G (cxR Tryz.prog K19 T19 w.lno Q') ⟨b,N,stl,108,[]⟩ [.code (.ref 7),.blk 3] { F:=F,H:=HB w st.met st.todo fs' { q with k:=k',Af:=Af',cf:=cf' } (.loop { rec with state:=.busy }) gn nn g6 n }:=by
  intro fs' k' Af' cf' hfs' hk0 hk1 hkk F hF
  refine roundB hQ' w st.met st.todo fs' n { q with k:=k',Af:=Af',cf:=cf' } _ gn nn g6 hn hrg htd hv hF fun v' At' ct' hv0 hv1 hvv F2 a W rep=>?_
  have hmm:=meet_meetM w.bn w.set w.s.1 st n
  rw[← hfs'] at hmm
  refine hnorm _ rfl (hs_ext w st q _ _ _ gn g6 nn n _ _ fs' hkk ?_) ?_ F2 a W rep
  ·rcases Nat.lt_or_ge q.v v' with h | h
   ·exact .inr h
   ·have e:v'=q.v:=by have:q.v≤v':=hv0; omega
    obtain⟨h1,h2,h3⟩:=hvv e
    exact .inl ⟨e,h1,h2,h3⟩
  ·refine G.le (E':=⟨b,N,stl,nt',[]⟩) (s':={ F:=F'',H:=HS w (meet w.bn w.set w.s.1 st n) ⟨k',v',Af',cf',At',ct'⟩ (.loop rec) gn nn }) rfl (fun a W rep=>?_) (next ⟨k',v',Af',cf',At',ct'⟩ ⟨hk0,hk1,hv0,hv1⟩ (fun e=>?_) (fun e=>?_))
   ·rw[hmm]
    refine rep.le hF2 ?_
    (simp only[go_sem,lk,Nat.reduceBEq,reduceLT,reduceAdd] <;> try simp)
    exact rfl
   ·rcases hkk with⟨_,h2,h3,h4⟩ | h
    ·exact⟨h2,h3,by rw[hmm]; exact h4⟩
    ·have e:k'=q.k:=e; omega
   ·obtain⟨h1,h2,h3⟩:=hvv e
    exact⟨h1,h2,by rw[hmm]; exact h3⟩
 (refine zj0w hQ' 20 ?_; dsimp only[go_sem,Nat.reduceBEq,reduceAdd,Y_0])
 refine⟨fun hin=>⟨fun hge=>?_,fun hlt=>?_⟩,fun hin=>?_⟩
 ·have hge:=of_decide_eq_true hge
  (refine zj0w hQ' 600 ?_; dsimp only[go_sem,Nat.reduceBEq,reduceAdd])
  refine zj0a (C:=cxR Tryz.prog K19 T19 w.lno Q') rfl (gm:=w.gm) (gl:=w.gl) (B:=w.B) (bn:=w.bn) (bc:=w.bc) (m:=st.met) (k:=q.k) (A:=q.Af) (n:=st.fs.length) (c:=q.cf) (xs:=fsV st.fs) (cd:=5) (p:=w.s.1) (r:=HM w st q (.loop { rec with state:=.busy })++[.cells gn 68 [.val (.int .i64 nn.1),.val (.bool nn.2)],.cells g6 68 [.val (.int .i64 n.1),.val (.bool n.2)]]) (by omega) ?_ fun A' c'=>?_
  ·rfl
  refine zj0n ?_
  have hfs:(if n.2=true∧(w.bn:Int)≤n.1 then st.fs++[(5,w.s.1)] else st.fs)=st.fs++[(5,w.s.1)]:=if_pos ⟨hin,hge⟩
  have e1:fsV st.fs++[Value.int .i64 5,.int .i64 w.s.1]=fsV (st.fs++[(5,w.s.1)]):=by rw[zj33]; rfl
  have e2:st.fs.length+1=(st.fs++[(5,w.s.1)]).length:=by simp
  rw[e1,e2]
  exact tl (st.fs++[(5,w.s.1)]) (q.k+1) A' c' hfs.symm (by omega) (by omega) (.inr (by omega)) _ (by simp only[putF]; (simp only[go_sem,lk,Nat.reduceBEq,reduceLT,reduceAdd] <;> try simp))
 ·have hlt:=of_decide_eq_false hlt
  exact tl st.fs q.k q.Af q.cf (if_neg (by omega)).symm (by omega) (by omega) (.inl ⟨rfl,rfl,rfl,rfl⟩) _ (by (simp only[go_sem,lk,Nat.reduceBEq,reduceLT,reduceAdd] <;> try simp))
 ·exact tl st.fs q.k q.Af q.cf (if_neg (by simp[hin])).symm (by omega) (by omega) (.inl ⟨rfl,rfl,rfl,rfl⟩) _ (by (simp only[go_sem,lk,Nat.reduceBEq,reduceLT,reduceAdd] <;> try simp))
end Go.Proofs.YtgghmmjoplddbaaGreatDoor
