/- The document's Fold. -/
import Derived.Test.YtlbiogokpadaoaaGreatDoorBgOne
import Derived.Test.YtlbiogokpadaoaaGreatDoorDoW3
import Derived.Test.YtlbiogokpadaoaaGreatDoorRpW1
set_option linter.unusedSimpArgs false
set_option linter.unusedVariables false
set_option linter.unnecessarySimpa false
namespace Go.Proofs.YtlbiogokpadaoaaGreatDoor
open Go Go.Sx Go.Isa Go.Lint
open Nat (reduceAdd reduceLT)
set_option maxRecDepth 100000
def knB (s:List (Option Int)):List Value:=s.map fun o=>.bool o.isSome
def rgV (s:List (Option Int)):List Value:=(rgO s).map uV
theorem zj4t {s:List (Option Int)} {j:Nat} {b:Bool} {o:Option Int} (h:o.isSome=b):setn (knB s) j (.bool b)=knB (s.set j o):=by
 unfold knB; rw[zj0e,List.map_set,h]
theorem zj4u {s:List (Option Int)} {j:Nat} {v:Int} {o:Option Int} (h:o.getD 0=v):setn (rgV s) j (.int .u64 v)=rgV (s.set j o):=by
 unfold rgV rgO; rw[zj0e,List.map_set,List.map_set,h]; rfl
theorem fdT_same {l:List In} {i:Nat} {x:In} (hx:l[i]? = some x) (h:foldA l i x=x):fdT l (i+1)=fdT l i:=by
 have hil:=(List.getElem?_eq_some_iff.1 hx).1
 rw[← zj7m hx,h]
 apply List.ext_getElem?
 intro j
 rw[List.getElem?_set]
 by_cases e:i=j
 ·subst e
  rw[if_pos rfl,if_pos (by rw[zj4c]; exact hil)]
  unfold fdT
  rw[List.getElem?_append_right (by rw[List.length_take]; omega),List.getElem?_drop,List.length_take,zj1c,show min i l.length=i by omega,Nat.sub_self,Nat.add_zero,hx]
 ·rw[if_neg e]
theorem knB_get {s:List (Option Int)} (hs:s.length=8) {n:Int} (h0:0≤n) (h1:n < 8):(knB s)[0+n.toNat*1]? = some (.bool (knO s n)):=by
 have h:n.toNat < s.length:=by omega
 rw[Nat.zero_add,Nat.mul_one]
 unfold knB knO
 rw[List.getElem?_map,List.getD_eq_getElem?_getD,List.getElem?_eq_getElem h]; rfl
theorem knB_len (s:List (Option Int)):(knB s).length=s.length:=by simp[knB]
theorem rgV_len (s:List (Option Int)):(rgV s).length=s.length:=by simp[rgV,rgO]
theorem zj1l {E:Env} {F:List (Nat × SV)} {H:List SO} {a:Act} {W:World} (rep:Rep E { F:=F,H:=H } a W) (d:Nat) {q:Bool} (h:lk F d=.val (.bool q)):Rep E { F:=(d,bsv q) :: F,H:=H } a W :=
 ⟨rep.size,fun e=>by
  have hf:Is H (lk F e) _:=rep.frame e
  show Is H (lk ((d,bsv q) :: F) e) _
  rw[zq6n]
  by_cases hde:d=e
  ·subst hde
   rw[h] at hf
   rw[beq_self_eq_true]
   cases q <;> simpa [bsv,Is,zq6k] using hf
  ·rw[show (d == e)=false by simpa using hde,zq6l]; exact hf,rep.defers,rep.heap⟩
section
variable {x:In} {s:List (Option Int)} {i:Nat} (hb:legalB x=true)
theorem fd_br (h:(goK x == 2)=true):14≤x.op∧x.op≤16:=by
 rw[zj4a] at h
 unfold brG at h
 simp only[Bool.and_eq_true,decide_eq_true_eq] at h
 exact h.2
include hb
omit hb in
theorem fd_reads (h:(goK x == 2)=true):(readsL x).all (knO s)=(knO s x.a && knO s x.b):=by
 have:=fd_br h
 unfold readsL
 rw[if_neg (by omega),if_neg (by omega),if_pos (.inr this)]; simp
theorem fd_nopA (h:(goK x == 2)=true) (hq:false=(readsL x).all (knO s)):foldI x s i=(x,s):=by
 rw[fd_reads h] at hq
 rw[zj4a] at h
 unfold foldI
 rw[hb,h,← hq]; rfl
theorem fd_jmp (h:(goK x == 2)=true) (hq:true=(readsL x).all (knO s)):foldI x s i=(⟨13,0,0,0,(doB x (rgO s) i).next⟩,s):=by
 rw[fd_reads h] at hq
 rw[zj4a] at h
 unfold foldI
 rw[hb,h,← hq]; rfl
omit hb in
theorem fd_lo (h:x.op < 14):brG x=false:=by
 cases h2:brG x with
 | false=>rfl
 | true=>rw[← zj4a] at h2; have:=fd_br h2; omega
theorem fd_nop (h:(goK x == 2)=false) (h1:(x.op == 11)=false) (h2:x.op < 2∨10 < x.op):foldI x s i=(x,s):=by
 rw[zj4a] at h
 unfold foldI
 rw[hb,h,if_neg (by simp),if_neg (by simp),if_neg (by simpa using h1),if_pos h2]
theorem fd_11 (h1:(x.op == 11)=true):foldI x s i=(x,s.set x.a.toNat none):=by
 have h1:x.op=11:=by simpa using h1
 unfold foldI
 rw[hb,fd_lo (by omega),if_neg (by simp),if_neg (by simp),if_pos h1]
theorem fd_mid (h2:decide (x.op≥2)=true) (h3:decide (x.op≤10)=true):foldI x s i=if (readsL x).all (knO s) then (if x.op ≠ 2∧smallU (doB x (rgO s) i).value=true then ⟨2,x.a,0,0,sgnU (doB x (rgO s) i).value⟩ else x,s.set x.a.toNat (some (doB x (rgO s) i).value)) else (x,s.set x.a.toNat none):=by
 have h2:=of_decide_eq_true h2
 have h3:=of_decide_eq_true h3
 have hk:(readsL x).all (knO s)=foldK x s:=by
  unfold readsL foldK
  by_cases e2:x.op=2
  ·rw[if_pos e2,if_neg (by omega),if_neg (by omega),if_neg (by omega)]; rfl
  ·by_cases e3:x.op=3
   ·rw[if_neg e2,if_pos e3,if_pos (.inl e3)]; simp
   ·rw[if_neg e2,if_neg e3,if_neg (by omega),if_pos ⟨by omega,h3⟩]; simp
 rw[hk]
 unfold foldI
 rw[hb,fd_lo (by omega),if_neg (by simp),if_neg (by simp),if_neg (by omega),if_neg (by omega)]
theorem fd_0 (h2:decide (x.op≥2)=true) (h3:decide (x.op≤10)=true) (hq:false=(readsL x).all (knO s)):foldI x s i=(x,s.set x.a.toNat none):=by
 rw[fd_mid hb h2 h3,← hq]; rfl
theorem fd_1 (h2:decide (x.op≥2)=true) (h3:decide (x.op≤10)=true) (hq:true=(readsL x).all (knO s)) (hn:(x.op != 2)=false∨smallU (doB x (rgO s) i).value=false):foldI x s i=(x,s.set x.a.toNat (some (doB x (rgO s) i).value)):=by
 rw[fd_mid hb h2 h3,← hq,if_pos rfl,if_neg]
 rintro ⟨h4,h5⟩
 rcases hn with h | h
 ·exact h4 (by simpa using h)
 ·rw[h] at h5; cases h5
theorem fd_w (h2:decide (x.op≥2)=true) (h3:decide (x.op≤10)=true) (hq:true=(readsL x).all (knO s)) (hn:(x.op != 2)=true) (hv:smallU (doB x (rgO s) i).value=true):foldI x s i=(⟨2,x.a,0,0,sgnU (doB x (rgO s) i).value⟩,s.set x.a.toNat (some (doB x (rgO s) i).value)):=by
 rw[fd_mid hb h2 h3,← hq,if_pos rfl,if_pos ⟨by simpa using hn,hv⟩]
end
theorem fd_no11 {x:In} (h:(x.op == 11)=true):¬ 14≤x.op:=by
 have h:x.op=11:=by simpa using h
 omega
theorem sm_lo {v:Int} (h:decide (v≤2147483647)=true):smallU v=true:=by unfold smallU; rw[h]; rfl
theorem sm_hi {v:Int} (h:decide (v≥18446744071562067968)=true):smallU v=true:=by unfold smallU; rw[show decide (18446744071562067968≤v)=true from h,Bool.or_true]
theorem sm_no {v:Int} (h:decide (v≤2147483647)=false) (h2:decide (v≥18446744071562067968)=false):smallU v=false:=by unfold smallU; rw[h,show decide (18446744071562067968≤v)=false from h2]; rfl
set_option maxHeartbeats 20000000 in
theorem fold61 (l:List In) (B:Option Addr) (bc:Nat) (w:World) (hB:RowAt w B (cellsI l)) (hl:l.length≤1024) :
  CallsV Tryz.prog 61 [.slice B l.length bc] w fun v w'=>World.ownsB w' w.heap.size 41 5 v l.length (cellsI (foldL l))∧Fresh w w':=by
 refine zj03 (keep:=K61) (nt:=149) (svs:=[.val (.slice B l.length bc)]) Tryz.func61 x61 n61 (by simp) (by simp[IsL,Is]) fun R hR=>?_
 (refine Y_go 600 ?_; dsimp only[go_sem,reduceAdd,Nat.reduceBEq])
 refine zj16 (vs:=[.slice B l.length bc]) rfl (fun W hW=>twin29 B bc l W (hB.keep hW.fresh') (by omega)) fun oA oC=>?_
 simp only[putF,List.nil_append,List.length_nil]
 (refine Y_go 600 ?_; dsimp only[go_sem,Nat.reduceBEq])
 refine zj07 (vs:=[.slice B l.length bc]) rfl (R:=fun W v W'=>PartsR l W v W') (fun W hW=>parts89 l B bc W hl (hB.keep hW.fresh')) fun W v W' hW ⟨pA,pc,ps,hv,k1,k2,_,_,k4⟩=>?_
 obtain⟨A,c,e,hx,hh,hi⟩:=hW.gain k2 k4
 subst hv
 refine⟨_,_,hi,hx,hh,?_⟩
 clear hx hh hi k2 k4 e hW
 (refine Y_go 600 ?_; dsimp only[go_sem,reduceAdd,Nat.reduceBEq])
 refine zj04 (α:=Nat × Nat) (fun q=>q.1≤ps.length∧((bgL l)[q.1]?).getD (l.length:Int)=(q.2:Int)∧q.2≤l.length) (fun _=>⟨w,w.heap.size,[],149,[]⟩) (fun q=>{ F:=[(0,.val (.slice B l.length bc)),(3,.own 0 0),(4,.own 1 0),(5,.val (.int .i64 (q.1:Int)))],H:=[.own 41 0 5 oA l.length oC (cellsI (fdT l q.2)),.own 35 0 3 A ps.length c (cellsR ps)] }) (fun q=>ps.length - q.1) (fun _=>rfl) ?start ?round
 case start =>
  intro a W rep
  exact⟨(0,0),⟨Nat.zero_le _,bgL_first l,Nat.zero_le _⟩,rep.le (by (simp only[go_sem,renF,renV,renVL,renO,pickH,pickE,posOf,lk,Nat.reduceBEq,reduceLT,reduceAdd] <;> try simp)) (by rw[fdT_zero]; (simp only[go_sem,renF,renV,renVL,renO,pickH,pickE,posOf,lk,Nat.reduceBEq,reduceLT,reduceAdd] <;> try simp))⟩
 case round =>
  rintro ⟨k,m⟩ ⟨hk,hm,hml⟩ I again
  have hk:k≤ps.length:=hk
  have hm:((bgL l)[k]?).getD (l.length:Int)=(m:Int):=hm
  have hml:m≤l.length:=hml
  have hpl:=zj47 k1
  have hbn:=zj6f l
  (refine Y_go 600 ?_; dsimp only[go_sem,Nat.reduceBEq,reduceAdd])
  refine⟨fun hlt=>?_,fun hge=>?_⟩
  ·have hlt:k < ps.length:=by have:=of_decide_eq_true hlt; omega
   have hpr:ps[k]? = some ps[k]:=List.getElem?_eq_getElem hlt
   have hpa:(ps[k]).pa=partL l (bgL l) k:=by
    have h:=congrArg (fun z=>z[k]?) k1
    simp only[List.getElem?_map,hpr,Option.map_some] at h
    rw[zj2u (by omega)] at h
    injection h
   generalize hpe:ps[k]=pr at hpr hpa
   have hx:(bgL l)[k]? = some (m:Int):=by
    have h:=List.getElem?_eq_getElem (l:=bgL l) (i:=k) (by omega)
    rw[h,Option.getD_some] at hm; rw[h,hm]
   have efr:pr.pa.fr=m:=by rw[hpa]; show (bgL l).getD _ 0=_; rw[List.getD_eq_getElem?_getD,hx]; rfl
   obtain⟨hto1,hto2⟩:=zj2v hx
   obtain⟨to,hto⟩:∃ to:Nat,toL l.length (bgL l) k=(to:Int):=⟨(toL l.length (bgL l) k).toNat,by omega⟩
   have eto:pr.pa.to=to:=by rw[hpa]; exact hto
   rw[hto] at hto1 hto2
   have hk1':((k:Nat):Int).toNat=k:=by omega
   have q0:(cellsR ps)[k*3]? = some (.int .i64 (m:Int)):=by rw[← efr]; have:=zj0m (k:=0) hpr (by omega); rw[Nat.add_zero] at this; rw[this]; rfl
   have q1:(cellsR ps)[k*3+1]? = some (.int .i64 (to:Int)):=by rw[← eto,zj0m hpr (by omega)]; rfl
   intro g6 g7
   rw[hk1']
   refine⟨⟨by omega,by omega⟩,_,q0,?_⟩
   refine zj04 (α:=Nat × List (Option Int)) (fun q=>m≤q.1∧q.1≤to∧stOk q.2∧(q.1 < to→q.2=stA l (bgL l) q.1)) (fun _=>⟨w,w.heap.size,[],149,[]⟩) (fun q=>{ F:=[(0,.val (.slice B l.length bc)),(3,.own 0 0),(4,.own 1 0),(5,.val (.int .i64 (k:Int))),(6,.ptr 2 0),(7,.ptr 3 0),(8,.val (.int .i64 (q.1:Int)))],H:=[.own 41 0 5 oA l.length oC (cellsI (fdT l q.1)),.own 35 0 3 A ps.length c (cellsR ps),.row g6 50 (rgV q.2),.row g7 135 (knB q.2)] }) (fun q=>to - q.1) (fun _=>rfl) ?start2 ?round2
   case start2 =>
    intro a W rep
    have rep1:=(rep.torow 2 rfl rfl).torow 3 rfl rfl
    refine⟨(m,St0),⟨Nat.le_refl _,by show m≤to; omega,stOk0,fun _=>(stA_beg (List.mem_of_getElem? hx)).symm⟩,?_⟩
    exact rep1.le (by (simp only[go_sem,renF,renV,renVL,renO,pickH,pickE,posOf,lk,Nat.reduceBEq,reduceLT,reduceAdd] <;> try simp)) (by (simp only[go_sem,renF,renV,renVL,renO,pickH,pickE,posOf,lk,Nat.reduceBEq,reduceLT,reduceAdd] <;> try simp); exact⟨rfl,rfl⟩)
   case round2 =>
    rintro ⟨i,s⟩ ⟨hi1,hi2,hs,hs2⟩ I2 again2
    have hi1:m≤i:=hi1
    have hi2:i≤to:=hi2
    have hs:stOk s:=hs
    have hs2:i < to→s=stA l (bgL l) i:=hs2
    (refine Y_go 600 ?_; dsimp only[go_sem,Nat.reduceBEq,reduceAdd])
    rw[hk1']
    refine⟨⟨by omega,by omega⟩,_,q1,fun hlt2=>?_,fun hge2=>?_⟩
    ·have hlt2:i < to:=by have:=of_decide_eq_true hlt2; omega
     have hil:i < l.length:=by omega
     have hx':l[i]? = some l[i]:=List.getElem?_eq_getElem hil
     have hi1':((i:Nat):Int).toNat=i:=by omega
     have cl:∀ k v,k < 5→(l[i]).cells[k]? = some v→CellAt ⟨w,w.heap.size,[],149,[]⟩ B (i*5+k) v:=fun k v hk hv=>(hB.toE (by simp) 149 []).cell (by rw[zj0b l hil hk]; exact hv)
     have sB:=someI hB hil
     generalize l[i]=x at cl hx'
     rw[hi1']
     refine⟨⟨by omega,by omega,sB⟩,_,cl 0 _ (by omega) rfl,_,cl 1 _ (by omega) rfl,_,cl 2 _ (by omega) rfl,_,cl 3 _ (by omega) rfl,_,cl 4 _ (by omega) rfl,fun g=>?_⟩
     have fin:∀ (s':List (Option Int)) (z:List In),(foldI x s i).2=s'→fdT l (i+1)=z→∀ (st:SS) (K:List KI),LE ⟨w,w.heap.size,[],149,[]⟩ st ⟨w,w.heap.size,[],149,[]⟩ { F:=[(0,.val (.slice B l.length bc)),(3,.own 0 0),(4,.own 1 0),(5,.val (.int .i64 (k:Int))),(6,.ptr 2 0),(7,.ptr 3 0),(8,.val (.int .i64 ((i+1:Nat):Int)))],H:=[.own 41 0 5 oA l.length oC (cellsI z),.own 35 0 3 A ps.length c (cellsR ps),.row g6 50 (rgV s'),.row g7 135 (knB s')] }→G (cxOf Tryz.prog Tryz.f61 K61 T61 R) ⟨w,w.heap.size,[],149,[]⟩ (.lend I2 :: K) st:=by
      intro s' z h1 h2 st K hle
      subst h1; subst h2
      refine zj00 fun a W rep=>again2 (i+1,(foldI x s i).2) ⟨by show m≤i+1; omega,by show i+1≤to; omega,foldI_ok hs,fun h=>?_⟩ (by show to - (i+1) < to - i; omega) a W (hle a W rep)
      have h:i+1 < to:=h
      show (foldI x s i).2=stA l (bgL l) (i+1)
      rw[stA_mid hx' (part_mid hx (by omega) (by rw[hto]; omega)),← hs2 hlt2]
     have hfa:foldA l i x=(foldI x s i).1:=by unfold foldA; rw[← hs2 hlt2]
     have same:(foldI x s i).1=x→fdT l (i+1)=fdT l i:=fun h=>fdT_same hx' (by rw[hfa,h])
     have put:∀ y,(foldI x s i).1=y→fdT l (i+1)=(fdT l i).set i y:=fun y h=>by rw[← h,← hfa,zj7m hx']
     refine zj01 (vs:=[In.val x]) rfl (fun W hW=>zj17 x W) fun v hv=>⟨bsv (legalB x),by rw[hv]; cases legalB x <;> simp[bsv,Is],?_⟩
     cases hb:legalB x with
     | false =>
      have hf0:foldI x s i=(x,s):=by unfold foldI; rw[hb]; rfl
      simp only[bsv]
      (refine Y_go 600 ?_; dsimp only[go_sem,Nat.reduceBEq])
      exact⟨((i+1:Nat):Int),ArOk.to (by omega) (by omega) (by omega),fin s _ (by rw[hf0]) (same (by rw[hf0])) _ _ fun a W rep=>rep.lq⟩
     | true =>
      simp only[bsv]
      (refine Y_go 600 ?_; dsimp only[go_sem,Nat.reduceBEq,reduceAdd])
      refine zj07 (vs:=[In.val x]) rfl (R:=fun W v W'=>∃ (rA:Option Addr) (rc:Nat),v=.slice rA (readsL x).length rc∧World.ownsB W' W.heap.size 3 1 (.slice rA (readsL x).length rc) (readsL x).length ((readsL x).map (Value.int .i64))∧Fresh W W') (fun W hW=>reads91 x W) fun W v W' hW ⟨rA,rc,hv,j2,j4⟩=>?_
      obtain⟨rB,rc2,e,jx,jh,ji⟩:=hW.gain j2 j4
      subst hv
      refine⟨_,_,ji,jx,jh,?_⟩
      clear jx jh ji j2 j4 e hW
      (refine Y_go 600 ?_; dsimp only[go_sem,reduceAdd,Nat.reduceBEq])
      obtain⟨r0,r1,r2,r3,r4,r5,r6,r7,hr⟩:∃ r0 r1 r2 r3 r4 r5 r6 r7,rgO s=[r0,r1,r2,r3,r4,r5,r6,r7]:=by
       have h8:=rgO_len hs.1
       match rgO s,h8 with
       | [r0,r1,r2,r3,r4,r5,r6,r7],_=>exact⟨r0,r1,r2,r3,r4,r5,r6,r7,rfl⟩
      have hrg:rgV s=[.int .u64 r0,.int .u64 r1,.int .u64 r2,.int .u64 r3,.int .u64 r4,.int .u64 r5,.int .u64 r6,.int .u64 r7]:=by unfold rgV; rw[hr]; rfl
      have hrl : (readsL x).length ≤ 2 := by unfold readsL; split; · exact Nat.le_succ 1
                                             split; · exact Nat.le_refl 2
                                             split; · exact Nat.le_refl 2
                                             exact Nat.zero_le 2
      have after:∀ q,q=(readsL x).all (knO s)→G (cxOf Tryz.prog Tryz.f61 K61 T61 R) ⟨w,w.heap.size,[],149,[]⟩ [.ops [⟨some 69,none,.call 92 [.tmp 66,.tmp 67,.tmp 68]⟩,⟨some 14,none,.k (.alloc 54 [.int .i64 0,.int .i64 0,.int .i64 0,.int .u64 0,.int .u64 0])⟩,⟨none,none,.k (.store 5 (.tmp 14) (.tmp 69))⟩],.code (.ref 14),.blk 3,.code (.ref 21),.lend I2,.blk 2,.blk 1,.code (.ref 26),.lend I,.blk 0,.code (.ref 29)]
        { F:=[(68,.val (.int .i64 (i:Int))),(67,.agg [.val (.int .u64 r0),.val (.int .u64 r1),.val (.int .u64 r2),.val (.int .u64 r3),.val (.int .u64 r4),.val (.int .u64 r5),.val (.int .u64 r6),.val (.int .u64 r7)]),(66,.agg [.val (.int .i64 x.op),.val (.int .i64 x.a),.val (.int .i64 x.b),.val (.int .i64 x.c),.val (.int .i64 x.imm)]),(0,.val (.slice B l.length bc)),(3,.own 0 0),(4,.own 1 0),(5,.val (.int .i64 (k:Int))),(6,.ptr 2 0),(7,.ptr 3 0),(8,.val (.int .i64 (i:Int))),(9,.ptr 4 0),(11,bsv q)],H:=[.own 41 0 5 oA l.length oC (cellsI (fdT l i)),.own 35 0 3 A ps.length c (cellsR ps),.row g6 50 (rgV s),.row g7 135 (knB s),.cells g 41 [.val (.int .i64 x.op),.val (.int .i64 x.a),.val (.int .i64 x.b),.val (.int .i64 x.c),.val (.int .i64 x.imm)]] }:=by
       intro q hq
       refine zj01 (vs:=[In.val x,.agg ((rgO s).map uV).toArray,.int .i64 (i:Int)]) (R:=fun v=>v=Ef.val (doB x (rgO s) i)) (by rw[hr]; rfl) (fun W hW=>do92 x (rgO s) i W (rgO_len hs.1) (rgO_U hs)) fun v hv=>⟨Ef.sv (doB x (rgO s) i),by rw[hv]; exact Ef.is _ _,?_⟩
       have hvU:2≤x.op∧x.op≤10→isU (doB x (rgO s) i).value:=fun h=>do_isU (rgO_U hs) h
       obtain⟨e,he⟩:∃ e,doB x (rgO s) i=e:=⟨_,rfl⟩
       rw[he] at hvU ⊢
       have hA1:0+x.a.toNat*1=x.a.toNat:=by omega
       have ha:=(zj1n hb).1
       have f11:(x.op == 11)=true→0≤x.a∧x.a < ((8:Nat):Int):=fun h=>by
        have h:x.op=11:=by simpa using h
        have:=ha (.inl ⟨by omega,by omega⟩)
        omega
       have fmid:decide (x.op≥2)=true→decide (x.op≤10)=true→0≤x.a∧x.a < ((8:Nat):Int):=fun h h2=>by
        have h:=of_decide_eq_true h
        have h2:=of_decide_eq_true h2
        have:=ha (.inl ⟨by omega,by omega⟩)
        omega
       have hsp:∀ op a b c imm:Int,setn (setn (setn (setn (setn (cellsI (fdT l i)) (i*5) (Value.int .i64 op)) (i*5+1) (Value.int .i64 a)) (i*5+1+1) (Value.int .i64 b)) (i*5+1+1+1) (Value.int .i64 c)) (i*5+1+1+1+1) (Value.int .i64 imm)=cellsI ((fdT l i).set i ⟨op,a,b,c,imm⟩):=fun op a b c imm=>zj6l (l:=fdT l i) (i:=i) (x:=⟨op,a,b,c,imm⟩) (by rw[zj4c]; exact hil)
       unfold Ef.sv
       cases q <;> simp only[bsv]
       all_goals (refine Y_go 600 ?_; dsimp only[go_sem,reduceAdd,Nat.reduceBEq])
       all_goals intro g14
       all_goals refine zj01 (vs:=[In.val x]) rfl (fun W hW=>goes93 x W) fun v hv=>⟨.val (.int .i64 (goK x)),by rw[hv]; simp[Is],?_⟩
       all_goals (refine Y_go 600 ?_; dsimp only[go_sem,Nat.reduceBEq,reduceAdd])
       all_goals rw[hA1,hi1']
       all_goals repeat' (first | refine And.intro ?_ ?_ | intro h)
       all_goals first | done | exact absurd ‹decide (x.op≤10)=true› (by rw[‹decide (x.op≤10)=false›]; decide) | exact absurd ‹decide (x.op≥2)=true› (by rw[‹decide (x.op≥2)=false›]; decide) | skip
       all_goals first | done | exact (f11 ‹_›).1 | exact (f11 ‹_›).2 | exact (fmid ‹_› ‹_›).1 | exact (fmid ‹_› ‹_›).2 | (rw[knB_len,hs.1]; have:=(f11 ‹_›); omega) | (rw[knB_len,hs.1]; have:=(fmid ‹_› ‹_›); omega) | (rw[rgV_len,hs.1]; have:=(f11 ‹_›); omega) | (rw[rgV_len,hs.1]; have:=(fmid ‹_› ‹_›); omega) | skip
       all_goals first | done | exact absurd (fd_br (x:=x) ‹_›).1 (by have:=of_decide_eq_true ‹decide (x.op≤10)=true›; omega) | exact absurd (fd_br (x:=x) ‹_›).1 (fd_no11 ‹_›) | skip
       all_goals first | done | omega | (rw[zj06,zj4c]; omega) | (have E:=fd_nopA (i:=i) hb ‹_› ‹_›; exact⟨((i+1:Nat):Int),ArOk.to (by omega) (by omega) (by omega),fin s _ (by rw[E]) (same (by rw[E])) _ _ fun a W rep=>rep.lq⟩) | (have E:=fd_jmp (i:=i) hb ‹_› ‹_›; rw[he] at E; exact⟨((i+1:Nat):Int),ArOk.to (by omega) (by omega) (by omega),fin s _ (by rw[E]) (put _ (by rw[E])) _ _ fun a W rep=>rep.le (by (simp only[go_sem,lk,Nat.reduceBEq,reduceLT,reduceAdd] <;> try simp)) (by rw[hsp]; (simp only[go_sem,lk,Nat.reduceBEq,reduceLT,reduceAdd] <;> try simp))⟩) | (have E:=fd_nop (s:=s) (i:=i) hb ‹_› ‹_› (.inl (by have:=of_decide_eq_false ‹decide (x.op≥2)=false›; omega)); exact⟨((i+1:Nat):Int),ArOk.to (by omega) (by omega) (by omega),fin s _ (by rw[E]) (same (by rw[E])) _ _ fun a W rep=>rep.lq⟩) | (have E:=fd_nop (s:=s) (i:=i) hb ‹_› ‹_› (.inr (by have:=of_decide_eq_false ‹decide (x.op≤10)=false›; omega)); exact⟨((i+1:Nat):Int),ArOk.to (by omega) (by omega) (by omega),fin s _ (by rw[E]) (same (by rw[E])) _ _ fun a W rep=>rep.lq⟩) | (have E:=fd_11 (s:=s) (i:=i) hb ‹_›; exact⟨((i+1:Nat):Int),ArOk.to (by omega) (by omega) (by omega),fin (s.set x.a.toNat none) _ (by rw[E]) (same (by rw[E])) _ _ fun a W rep=>rep.le (by (simp only[go_sem,lk,Nat.reduceBEq,reduceLT,reduceAdd] <;> try simp)) (by rw[zj4t (b:=false) (o:=none) rfl,zj4u (v:=0) (o:=none) rfl]; (simp only[go_sem,lk,Nat.reduceBEq,reduceLT,reduceAdd] <;> try simp))⟩) | (have E:=fd_0 (i:=i) hb ‹_› ‹_› ‹_›; exact⟨((i+1:Nat):Int),ArOk.to (by omega) (by omega) (by omega),fin (s.set x.a.toNat none) _ (by rw[E]) (same (by rw[E])) _ _ fun a W rep=>rep.le (by (simp only[go_sem,lk,Nat.reduceBEq,reduceLT,reduceAdd] <;> try simp)) (by rw[zj4t (b:=false) (o:=none) rfl,zj4u (v:=0) (o:=none) rfl]; (simp only[go_sem,lk,Nat.reduceBEq,reduceLT,reduceAdd] <;> try simp))⟩) | (have E:=fd_w (i:=i) hb ‹_› ‹_› ‹_› ‹_› (by rw[he]; exact sm_lo ‹_›); rw[he] at E; exact⟨sgnU e.value,zj7j (hvU ⟨of_decide_eq_true ‹decide (x.op≥2)=true›,of_decide_eq_true ‹decide (x.op≤10)=true›⟩),⟨by omega,by omega⟩,by rw[zj06,zj4c]; omega,((i+1:Nat):Int),ArOk.to (by omega) (by omega) (by omega),fin (s.set x.a.toNat (some e.value)) _ (by rw[E]) (put _ (by rw[E])) _ _ fun a W rep=>rep.le (by (simp only[go_sem,lk,Nat.reduceBEq,reduceLT,reduceAdd] <;> try simp)) (by rw[zj4t (b:=true) (o:=some e.value) rfl,zj4u (v:=e.value) (o:=some e.value) rfl,hsp]; (simp only[go_sem,lk,Nat.reduceBEq,reduceLT,reduceAdd] <;> try simp))⟩) | (have E:=fd_w (i:=i) hb ‹_› ‹_› ‹_› ‹_› (by rw[he]; exact sm_hi ‹_›); rw[he] at E; exact⟨sgnU e.value,zj7j (hvU ⟨of_decide_eq_true ‹decide (x.op≥2)=true›,of_decide_eq_true ‹decide (x.op≤10)=true›⟩),⟨by omega,by omega⟩,by rw[zj06,zj4c]; omega,((i+1:Nat):Int),ArOk.to (by omega) (by omega) (by omega),fin (s.set x.a.toNat (some e.value)) _ (by rw[E]) (put _ (by rw[E])) _ _ fun a W rep=>rep.le (by (simp only[go_sem,lk,Nat.reduceBEq,reduceLT,reduceAdd] <;> try simp)) (by rw[zj4t (b:=true) (o:=some e.value) rfl,zj4u (v:=e.value) (o:=some e.value) rfl,hsp]; (simp only[go_sem,lk,Nat.reduceBEq,reduceLT,reduceAdd] <;> try simp))⟩) | (have E:=fd_1 (i:=i) hb ‹_› ‹_› ‹_› (.inl ‹_›); rw[he] at E; exact⟨((i+1:Nat):Int),ArOk.to (by omega) (by omega) (by omega),fin (s.set x.a.toNat (some e.value)) _ (by rw[E]) (same (by rw[E])) _ _ fun a W rep=>rep.le (by (simp only[go_sem,lk,Nat.reduceBEq,reduceLT,reduceAdd] <;> try simp)) (by rw[zj4t (b:=true) (o:=some e.value) rfl,zj4u (v:=e.value) (o:=some e.value) rfl]; (simp only[go_sem,lk,Nat.reduceBEq,reduceLT,reduceAdd] <;> try simp))⟩) | (have E:=fd_1 (i:=i) hb ‹_› ‹_› ‹_› (.inr (by rw[he]; exact sm_no ‹_› ‹_›)); rw[he] at E; exact⟨((i+1:Nat):Int),ArOk.to (by omega) (by omega) (by omega),fin (s.set x.a.toNat (some e.value)) _ (by rw[E]) (same (by rw[E])) _ _ fun a W rep=>rep.le (by (simp only[go_sem,lk,Nat.reduceBEq,reduceLT,reduceAdd] <;> try simp)) (by rw[zj4t (b:=true) (o:=some e.value) rfl,zj4u (v:=e.value) (o:=some e.value) rfl]; (simp only[go_sem,lk,Nat.reduceBEq,reduceLT,reduceAdd] <;> try simp))⟩) | skip
      refine zj04 (α:=Nat) (fun j=>j≤(readsL x).length) (fun _=>⟨w,w.heap.size,[],149,[]⟩) (fun j=>{ F:=[(0,.val (.slice B l.length bc)),(3,.own 0 0),(4,.own 1 0),(5,.val (.int .i64 (k:Int))),(6,.ptr 2 0),(7,.ptr 3 0),(8,.val (.int .i64 (i:Int))),(9,.ptr 4 0),(11,bsv (((readsL x).take j).all (knO s))),(12,.own 5 0),(13,.val (.int .i64 (j:Int)))],H:=[.own 41 0 5 oA l.length oC (cellsI (fdT l i)),.own 35 0 3 A ps.length c (cellsR ps),.row g6 50 (rgV s),.row g7 135 (knB s),.cells g 41 [.val (.int .i64 x.op),.val (.int .i64 x.a),.val (.int .i64 x.b),.val (.int .i64 x.c),.val (.int .i64 x.imm)],.own 3 0 1 rB (readsL x).length rc2 ((readsL x).map (Value.int .i64))] }) (fun j=>(readsL x).length - j) (fun _=>rfl) ?start3 ?round3
      case start3 =>
       intro a W rep
       exact⟨0,Nat.zero_le _,rep.le (by rw[List.take_zero,List.all_nil]; simp only[bsv]; (simp only[go_sem,lk,Nat.reduceBEq,reduceLT,reduceAdd] <;> try simp)) (by (simp only[go_sem,renF,renV,renVL,renO,pickH,pickE,posOf,lk,Nat.reduceBEq,reduceLT,reduceAdd] <;> try simp))⟩
      case round3 =>
       intro j hj I3 again3
       have hj:j≤(readsL x).length:=hj
       generalize hq:((readsL x).take j).all (knO s)=q
       cases q <;> simp only[bsv]
       all_goals (refine Y_go 600 ?_; dsimp only[go_sem,Nat.reduceBEq,reduceAdd])
       ·refine⟨fun hlt3=>⟨((j+1:Nat):Int),ArOk.to (by omega) (by omega) (by omega),zj00 fun a W rep=>again3 (j+1) (by have:=of_decide_eq_true hlt3; omega) (by have:=of_decide_eq_true hlt3; omega) a W (rep.le ?_ ?_)⟩,fun hge3=>⟨r0,by rw[hrg]; rfl,r1,by rw[hrg]; rfl,r2,by rw[hrg]; rfl,r3,by rw[hrg]; rfl,r4,by rw[hrg]; rfl,r5,by rw[hrg]; rfl,r6,by rw[hrg]; rfl,r7,by rw[hrg]; rfl,fun a W rep=>after false ?_ a W (rep.le ?_ ?_)⟩⟩
        ·have hlt3:=of_decide_eq_true hlt3
         rw[List.take_add_one,List.all_append,hq,Bool.false_and]
         simp only[bsv]; (simp only[go_sem,lk,Nat.reduceBEq,reduceLT,reduceAdd] <;> try simp)
        ·(simp only[go_sem,lk,Nat.reduceBEq,reduceLT,reduceAdd] <;> try simp)
        ·have hge3:=of_decide_eq_false hge3
         rw[List.take_of_length_le (by omega)] at hq; exact hq.symm
        ·simp only[bsv]; (simp only[go_sem,lk,Nat.reduceBEq,reduceLT,reduceAdd] <;> try simp)
        ·(simp only[go_sem,lk,Nat.reduceBEq,reduceLT,reduceAdd] <;> try simp)
       ·refine⟨fun hlt3=>?_,fun hge3=>⟨r0,by rw[hrg]; rfl,r1,by rw[hrg]; rfl,r2,by rw[hrg]; rfl,r3,by rw[hrg]; rfl,r4,by rw[hrg]; rfl,r5,by rw[hrg]; rfl,r6,by rw[hrg]; rfl,r7,by rw[hrg]; rfl,fun a W rep=>after true ?_ a W (rep.le ?_ ?_)⟩⟩
        ·have hlt3:j < (readsL x).length:=by have:=of_decide_eq_true hlt3; omega
         have hj1:((j:Nat):Int).toNat=j:=by omega
         obtain⟨n,hn⟩:∃ n,(readsL x)[j]? = some n:=⟨_,List.getElem?_eq_getElem hlt3⟩
         have hnr:=reads_range hb (List.mem_of_getElem? hn)
         rw[hj1]
         refine⟨⟨by omega,by omega⟩,n,by rw[List.getElem?_map,Nat.mul_one,hn]; rfl,⟨hnr.1,by omega⟩,knO s n,knB_get hs.1 hnr.1 hnr.2,((j+1:Nat):Int),ArOk.to (by omega) (by omega) (by omega),zj00 fun a W rep=>again3 (j+1) (by omega) (by omega) a W ((zj1l rep 11 rfl).le ?_ ?_)⟩
         ·rw[List.take_add_one,hn,List.all_append,hq,Bool.true_and]
          simp only[Option.toList_some,List.all_cons,List.all_nil,Bool.and_true]
          cases knO s n <;> (simp only[bsv]; (simp only[go_sem,lk,Nat.reduceBEq,reduceLT,reduceAdd] <;> try simp))
         ·(simp only[go_sem,lk,Nat.reduceBEq,reduceLT,reduceAdd] <;> try simp)
        ·have hge3:=of_decide_eq_false hge3
         rw[List.take_of_length_le (by omega)] at hq; exact hq.symm
        ·simp only[bsv]; (simp only[go_sem,lk,Nat.reduceBEq,reduceLT,reduceAdd] <;> try simp)
        ·(simp only[go_sem,lk,Nat.reduceBEq,reduceLT,reduceAdd] <;> try simp)
    ·have hge2:i=to:=by have:=of_decide_eq_false hge2; omega
     subst hge2
     refine⟨((k+1:Nat):Int),ArOk.to (by omega) (by omega) (by omega),zj00 fun a W rep=>again (k+1,i) ⟨by show k+1≤_; omega,?_,by show i≤_; omega⟩ (by show ps.length - (k+1) < ps.length - k; omega) a W (rep.lp)⟩
     show ((bgL l)[k+1]?).getD (l.length:Int)=(i:Int)
     rw[← hto]; rfl
  ·have hk2:k=ps.length:=by have:=of_decide_eq_false hge; omega
   have hml:m=l.length:=by
    subst hk2
    rw[hpl,List.getElem?_eq_none (by omega),Option.getD_none] at hm
    omega
   subst hml
   rw[fdT_all]
   exact zj02 (vs:=[.slice oA l.length oC]) r61 rfl rfl fun W hW=>hR _ _ ⟨hW.owns (i:=0) rfl,hW.fresh'⟩
end Go.Proofs.YtlbiogokpadaoaaGreatDoor
