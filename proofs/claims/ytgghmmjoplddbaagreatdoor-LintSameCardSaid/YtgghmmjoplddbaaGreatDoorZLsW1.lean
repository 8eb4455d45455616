/- A run, instruction by instruction: next. -/
import Derived.Test.YtgghmmjoplddbaaGreatDoorZDoW1
import Derived.Test.YtgghmmjoplddbaaGreatDoorZLsCode
import Derived.Test.YtgghmmjoplddbaaGreatDoorZLaPlain
import Derived.Test.YtgghmmjoplddbaaGreatDoorZOcPl
set_option linter.unusedSimpArgs false
set_option linter.unusedVariables false
set_option linter.unnecessarySimpa false
namespace Go.Proofs.YtgghmmjoplddbaaGreatDoor
open Go Go.Sx Go.Isa Go.Lint
open Nat (reduceAdd reduceLT)
set_option maxRecDepth 100000
def rnV (s:Rn) (L:Value):List Value:=s.rs.map uV++([.int .i64 s.pc,.bool s.inn,L,.int .i64 s.n]++s.st.map Value.bool)
theorem set_app {α:Type} (a b:List α) (i:Nat) (v:α) (h:i < a.length):setn (a++b) i v=a.set i v++b:=by
 rw[zj12,List.set_append_left _ _ h]
theorem zj4d {α:Type} (a b:List α) (i:Nat) (v:α):setn (a++b) (a.length+i) v=a++setn b i v:=by
 rw[zj12,zj12,List.set_append_right _ _ (by omega)]
 congr 2; omega
theorem rn_reg (s:Rn) (L:Value) (i:Nat) (v:Int) (h:i < s.rs.length):setn (rnV s L) i (uV v)=rnV { s with rs:=s.rs.set i v } L:=by
 unfold rnV
 rw[set_app _ _ _ _ (by simpa using h),List.map_set]
theorem rn_st (s:Rn) (L:Value) (i:Nat) (h8:s.rs.length=8):setn (rnV s L) (12+i) (.bool true)=rnV { s with st:=s.st.set i true } L:=by
 unfold rnV
 have e:12+i=(s.rs.map uV).length+(4+i):=by rw[List.length_map,h8]; omega
 rw[e,zj4d]
 have e2:4+i=([.int .i64 s.pc,.bool s.inn,L,.int .i64 s.n]:List Value).length+i:=by simp
 rw[e2,zj4d,zj12,List.map_set]
theorem rn_pc (s:Rn) (L:Value) (v:Int) (h8:s.rs.length=8):setn (rnV s L) 8 (.int .i64 v)=rnV { s with pc:=v } L:=by
 unfold rnV
 have e:8=(s.rs.map uV).length+0:=by rw[List.length_map,h8]
 conv=>lhs; rw[e]
 rw[zj4d]; rfl
theorem rn_n (s:Rn) (L:Value) (v:Int) (h8:s.rs.length=8):setn (rnV s L) 11 (.int .i64 v)=rnV { s with n:=v } L:=by
 unfold rnV
 have e:11=(s.rs.map uV).length+3:=by rw[List.length_map,h8]
 conv=>lhs; rw[e]
 rw[zj4d]; rfl
theorem rn_len (s:Rn) (L:Value) (h8:s.rs.length=8) (k8:s.st.length=8):(rnV s L).length=20:=by simp[rnV,h8,k8]
theorem zj1l {α:Type} (l:List α) (i:Nat) (v:α):(setn l i v).length=l.length:=by rw[zj12,List.length_set]
theorem list8 {α:Type} {l:List α} (h:l.length=8):∃ a0 a1 a2 a3 a4 a5 a6 a7,l=[a0,a1,a2,a3,a4,a5,a6,a7]:=by
 match l,h with
 | [a0,a1,a2,a3,a4,a5,a6,a7],_=>exact⟨a0,a1,a2,a3,a4,a5,a6,a7,rfl⟩
theorem over_less {E A:Env} {st:List Nat} (nt:Nat) (mk:List Nat) (h:Over E A) (hs:∀ j ∈ st,j ∈ A.stolen):Over E ⟨A.b,A.N,st,nt,mk⟩ :=
 ⟨h.keep,fun j hj=>⟨(h.sub j hj).1,fun hm=>(h.sub j hj).2 (hs j hm)⟩,h.floor⟩
def ldV (ls:List Int) (n:Int):Int:=if ls.length=0 then 0 else ls.getD (n % ls.length).toNat 0
theorem next8 {E0:Env} {W:World} (l:List In) (B:Option Addr) (bc:Nat) (s:Rn) (ls:List Int) (LA:Option Addr) (lc:Nat) (g:Nat) (x:In)
  (h8:s.rs.length=8) (k8:s.st.length=8) (hU:∀ v ∈ s.rs,isU v) (hn0:0≤s.n) (hn1:s.n≤1000000) (hp:0≤s.pc) (hpl:s.pc < 1024) (hx:l[s.pc.toNat]? = some x) (hls:ls.length≤1000000)
  (hB:RowE E0 B (cellsI l)) (hL:RowE E0 LA (ls.map uV)) (hG:RowE E0 (some ⟨0,0,none⟩) shL) (hW:HeapOk E0 [.row g 37 (rnV s (.slice LA ls.length lc))] W) :
  CallsV Tryz.prog 8 [.pointer (some ⟨g,0,none⟩),.slice B l.length bc] W fun v W'=>v=.tuple #[Ef.val (doB x s.rs s.pc),.int .i64 (endN (doB x s.rs s.pc) s.inn)]∧HeapOk E0 [.row g 37 (rnV (stepR (doB x s.rs s.pc) (ldV ls s.n) s) (.slice LA ls.length lc))] W':=by
 obtain⟨b0,N,stl,nt0,mk0⟩:=E0
 obtain⟨rs,pc,inn,n,st⟩:=s
 obtain⟨r0,r1,r2,r3,r4,r5,r6,r7,rfl⟩:=list8 h8
 obtain⟨s0,s1,s2,s3,s4,s5,s6,s7,rfl⟩:=list8 k8
 refine zj2z (keep:=K8) (nt:=152) (svs:=[.ptr 0 0,.val (.slice B l.length bc)]) Tryz.func8 x8 n8 (by simp) hW ?_ fun R hR=>?_
 ·simp only[IsL,Is,blk,nth]
  exact⟨_,_,⟨_,rfl,rfl⟩,⟨_,_,rfl,rfl,rfl⟩,rfl⟩
 have hQ:zj0b (endPost Tryz.prog Tryz.f8 R):=zj1s _ _ _
 (refine Y_go 600 ?_; dsimp only[go_sem,reduceAdd,Nat.reduceBEq])
 intro g4
 (refine alt_y rfl hQ 600 ?_; dsimp only[go_sem,YT_k,YT_alt,YT_call,Nat.reduceBEq,reduceAdd])
 have hgx:=List.getElem?_eq_some_iff.1 hx
 have hlt:pc.toNat < l.length:=hgx.1
 have cl:∀ k v,k < 5→x.cells[k]? = some v→CellAt ⟨b0,N,stl,152,[]⟩ B (pc.toNat*5+k) v:=fun k v hk hv=>hB.cell (by
  rw[zj25 l hlt hk]
  rw[show l[pc.toNat]=x from hgx.2]; exact hv)
 have sB:B.isSome=true:=hB.isSome (j:=pc.toNat*5) (by rw[zj1j]; omega)
 have hdo:=fun W hW=>do24 x [r0,r1,r2,r3,r4,r5,r6,r7] pc W hW rfl hU
 have hsets:=fun (hl:legalB x=true)=>do_sets (r:=[r0,r1,r2,r3,r4,r5,r6,r7]) hl hp hpl
 have hkind:=do_kind x [r0,r1,r2,r3,r4,r5,r6,r7] pc
 have hend:endN (doB x [r0,r1,r2,r3,r4,r5,r6,r7] pc) inn=0→legalB x=true:=fun he=>by
  cases hl:legalB x with
  | true=>rfl
  | false =>
   have:doB x [r0,r1,r2,r3,r4,r5,r6,r7] pc=Ef.zero:=by unfold doB; rw[if_neg (by simp[hl])]
   rw[this] at he; simp[endN,Ef.zero] at he
 generalize doB x [r0,r1,r2,r3,r4,r5,r6,r7] pc=e at *
 have fin:∀ (F:List (Nat × SV)) (s':Rn) (z:Int) (r:List SO),denR (.row g 37 (rnV s' (.slice LA ls.length lc)) :: r) F [RV.cell 4 5 true,RV.tmp 5]=some [Ef.val e,.int .i64 z]→z=endN e inn→s'=stepR e (ldV ls n) ⟨[r0,r1,r2,r3,r4,r5,r6,r7],pc,inn,n,[s0,s1,s2,s3,s4,s5,s6,s7]⟩→RetG (cxOf Tryz.prog Tryz.f8 K8 T8 R) ⟨b0,N,stl,152,[]⟩ { F:=F,H:=.row g 37 (rnV s' (.slice LA ls.length lc)) :: r }:=by
  intro F s' z r hd hz hs'
  subst hz; subst hs'
  refine ret_rv (vs:=[Ef.val e,.int .i64 (endN e inn)]) r8 rfl hd fun W hW=>hR _ _ ⟨rfl,?_⟩
  have h1:HeapOk ⟨b0,N,stl,152,[]⟩ [.row g 37 (rnV (stepR e (ldV ls n) ⟨[r0,r1,r2,r3,r4,r5,r6,r7],pc,inn,n,[s0,s1,s2,s3,s4,s5,s6,s7]⟩) (.slice LA ls.length lc))] W:=HeapOk.pre (H':=[_]) (r:=r) hW (by intro e he; simp only[List.mem_singleton] at he; subst he; rfl)
  exact HeapOk.env (E:=⟨b0,N,stl,152,[]⟩) (E':=⟨b0,N,stl,nt0,mk0⟩) rfl rfl rfl h1
 have c24:∀ (g6:Nat) (s':Rn),s'.rs.length=8→endN e inn=0→{ s' with pc:=e.next }=stepR e (ldV ls n) ⟨[r0,r1,r2,r3,r4,r5,r6,r7],pc,inn,n,[s0,s1,s2,s3,s4,s5,s6,s7]⟩→G (cxOf Tryz.prog Tryz.f8 K8 T8 R) ⟨b0,N,stl,152,[]⟩ [.code (.ref 24)] { F:=[(0,.ptr 0 0),(4,.ptr 1 0),(5,.val (.int .i64 0)),(6,.ptr 2 0)],H:=[.row g 37 (rnV s' (.slice LA ls.length lc)),.cells g4 39 [.val (.int .i64 0),.val (.int .i64 0),.val (.int .i64 0),.val (.int .u64 0),.val (.int .u64 0)],.cells g6 39 [.val (.int .i64 e.kind),.val (.int .i64 e.next),.val (.int .i64 e.reg),.val (.int .u64 e.value),.val (.int .u64 e.addr)]] }:=by
  intro g6 s' hr he hs
  (refine Y_go 600 ?_; dsimp only[go_sem,Nat.reduceBEq,reduceAdd])
  refine⟨by simp[rnV,hr]; omega,?_⟩
  rw[rn_pc s' _ _ hr]
  exact fin _ { s' with pc:=e.next } 0 _ rfl he.symm hs
 have hreg:e.kind=1∨e.kind=3→endN e inn=0→0≤e.reg∧e.reg < 8:=fun hk he=>by
  have h1:=hsets (hend he)
  have h2:=h1.2 (h1.1.1 hk)
  rw[h2.1]
  exact h2.2
 have hrow:∀ (v:Int) (m:Int) ,0≤e.reg∧e.reg < 8→setn (setn (setn (rnV ⟨[r0,r1,r2,r3,r4,r5,r6,r7],pc,inn,m,[s0,s1,s2,s3,s4,s5,s6,s7]⟩ (.slice LA ls.length lc)) (0+e.reg.toNat*1) (.int .u64 v)) (12+e.reg.toNat*1) (.bool true)) 8 (.int .i64 e.next)=rnV ⟨([r0,r1,r2,r3,r4,r5,r6,r7]:List Int).set e.reg.toNat v,e.next,inn,m,([s0,s1,s2,s3,s4,s5,s6,s7]:List Bool).set e.reg.toNat true⟩ (.slice LA ls.length lc):=fun v m hr=>by
  rw[Nat.zero_add,Nat.mul_one,show Value.int .u64 v=uV v from rfl,rn_reg _ _ _ _ (by simp; omega),rn_st _ _ _ (by simp),rn_pc _ _ _ (by simp)]
 have c18:∀ g6,endN e inn=0→G (cxOf Tryz.prog Tryz.f8 K8 T8 R) ⟨b0,N,stl,152,[]⟩ [.code (.ref 18),.blk 0,.code (.ref 24)] { F:=[(0,.ptr 0 0),(4,.ptr 1 0),(5,.val (.int .i64 0)),(6,.ptr 2 0)],H:=[.row g 37 (rnV ⟨[r0,r1,r2,r3,r4,r5,r6,r7],pc,inn,n,[s0,s1,s2,s3,s4,s5,s6,s7]⟩ (.slice LA ls.length lc)),.cells g4 39 [.val (.int .i64 0),.val (.int .i64 0),.val (.int .i64 0),.val (.int .u64 0),.val (.int .u64 0)],.cells g6 39 [.val (.int .i64 e.kind),.val (.int .i64 e.next),.val (.int .i64 e.reg),.val (.int .u64 e.value),.val (.int .u64 e.addr)]] }:=by
  intro g6 he
  (refine Y_go 9 ?_; dsimp only[go_sem,Nat.reduceBEq,reduceAdd,Y_0])
  refine⟨fun h=>?_,fun h=>?_⟩
  ·have h:=eq_of_beq h
   have hr:=hreg (.inl h) he
   (refine Y_go 600 ?_; dsimp only[go_sem,Nat.reduceBEq,reduceAdd])
   refine⟨hr,by rw[rn_len _ _ rfl rfl]; omega,hr,by rw[zj1l,rn_len _ _ rfl rfl]; omega,by rw[zj1l,zj1l,rn_len _ _ rfl rfl]; omega,?_⟩
   rw[hrow _ _ hr]
   exact fin _ ⟨([r0,r1,r2,r3,r4,r5,r6,r7]:List Int).set e.reg.toNat e.value,e.next,inn,n,([s0,s1,s2,s3,s4,s5,s6,s7]:List Bool).set e.reg.toNat true⟩ 0 _ rfl he.symm (by unfold stepR; rw[if_neg (fun k=>k he)]; simp[h])
  ·have h1:=ne_of_beq_false h
   (refine Y_go 9 ?_; dsimp only[go_sem,Nat.reduceBEq,reduceAdd,Y_0])
   refine⟨fun h=>?_,fun h=>?_⟩
   ·have h:=eq_of_beq h
    have hr:=hreg (.inr h) he
    have hn0:0≤n:=hn0
    have hn1:n≤1000000:=hn1
    (refine Y_go 600 ?_; dsimp only[go_sem,Nat.reduceBEq,reduceAdd])
    have q3:∀ v:Int,setn (rnV ⟨[r0,r1,r2,r3,r4,r5,r6,r7],pc,inn,n,[s0,s1,s2,s3,s4,s5,s6,s7]⟩ (.slice LA ls.length lc)) 11 (.int .i64 (n+1))=rnV ⟨[r0,r1,r2,r3,r4,r5,r6,r7],pc,inn,n+1,[s0,s1,s2,s3,s4,s5,s6,s7]⟩ (.slice LA ls.length lc):=fun _=>rn_n _ _ _ rfl
    have leaf:∀ v:Int,v=ldV ls n→∀ F,denR ([.row g 37 (rnV ⟨([r0,r1,r2,r3,r4,r5,r6,r7]:List Int).set e.reg.toNat v,e.next,inn,(n+1),([s0,s1,s2,s3,s4,s5,s6,s7]:List Bool).set e.reg.toNat true⟩ (.slice LA ls.length lc)),.cells g4 39 [.val (.int .i64 e.kind),.val (.int .i64 e.next),.val (.int .i64 e.reg),.val (.int .u64 e.value),.val (.int .u64 e.addr)],.cells g6 39 [.val (.int .i64 e.kind),.val (.int .i64 e.next),.val (.int .i64 e.reg),.val (.int .u64 e.value),.val (.int .u64 e.addr)]]) F [RV.cell 4 5 true,RV.tmp 5]=some [Ef.val e,.int .i64 0] →
      (0≤e.reg∧e.reg < ((8:Nat):Int))∧0+e.reg.toNat*1+1≤(setn (rnV ⟨[r0,r1,r2,r3,r4,r5,r6,r7],pc,inn,n,[s0,s1,s2,s3,s4,s5,s6,s7]⟩ (.slice LA ls.length lc)) 11 (.int .i64 (n+1))).length∧(0≤e.reg∧e.reg < ((8:Nat):Int))∧12+e.reg.toNat*1+1≤(setn (setn (rnV ⟨[r0,r1,r2,r3,r4,r5,r6,r7],pc,inn,n,[s0,s1,s2,s3,s4,s5,s6,s7]⟩ (.slice LA ls.length lc)) 11 (.int .i64 (n+1))) (0+e.reg.toNat*1) (.int .u64 v)).length∧9≤(setn (setn (setn (rnV ⟨[r0,r1,r2,r3,r4,r5,r6,r7],pc,inn,n,[s0,s1,s2,s3,s4,s5,s6,s7]⟩ (.slice LA ls.length lc)) 11 (.int .i64 (n+1))) (0+e.reg.toNat*1) (.int .u64 v)) (12+e.reg.toNat*1) (.bool true)).length ∧
      RetG (cxOf Tryz.prog Tryz.f8 K8 T8 R) ⟨b0,N,stl,152,[]⟩ { F:=F,H:=[.row g 37 (setn (setn (setn (setn (rnV ⟨[r0,r1,r2,r3,r4,r5,r6,r7],pc,inn,n,[s0,s1,s2,s3,s4,s5,s6,s7]⟩ (.slice LA ls.length lc)) 11 (.int .i64 (n+1))) (0+e.reg.toNat*1) (.int .u64 v)) (12+e.reg.toNat*1) (.bool true)) 8 (.int .i64 e.next)),.cells g4 39 [.val (.int .i64 e.kind),.val (.int .i64 e.next),.val (.int .i64 e.reg),.val (.int .u64 e.value),.val (.int .u64 e.addr)],.cells g6 39 [.val (.int .i64 e.kind),.val (.int .i64 e.next),.val (.int .i64 e.reg),.val (.int .u64 e.value),.val (.int .u64 e.addr)]] }:=by
     intro v hv F hd
     rw[q3 0,hrow _ _ hr]
     refine⟨hr,by rw[rn_len _ _ rfl rfl]; omega,hr,by rw[zj1l,rn_len _ _ rfl rfl]; omega,by rw[zj1l,zj1l,rn_len _ _ rfl rfl]; omega,?_⟩
     exact fin _ ⟨([r0,r1,r2,r3,r4,r5,r6,r7]:List Int).set e.reg.toNat v,e.next,inn,(n+1),([s0,s1,s2,s3,s4,s5,s6,s7]:List Bool).set e.reg.toNat true⟩ 0 _ hd he.symm (by unfold stepR; rw[if_neg (fun k=>k he)]; simp[h,hv])
    refine⟨LA,ls.length,lc,rfl,fun hpos=>?_,fun hneg=>?_⟩
    ·have hpos:0 < ls.length:=by have:=of_decide_eq_true hpos; omega
     have hm0:=Int.emod_nonneg n (b:=(ls.length:Int)) (by omega)
     have hm1:=Int.emod_lt_of_pos n (b:=(ls.length:Int)) (by omega)
     have hget:(ls.map uV)[(n % (ls.length:Int)).toNat]? = some (.int .u64 (ldV ls n)):=by
      rw[List.getElem?_map,List.getElem?_eq_getElem (by omega)]
      unfold ldV
      rw[if_neg (by omega),List.getD_eq_getElem?_getD,List.getElem?_eq_getElem (by omega)]
      rfl
     exact⟨LA,ls.length,lc,rfl,n,rfl,LA,ls.length,lc,rfl,_,.rem_nn hn0 (by omega),⟨hm0,hm1,hL.isSome (j:=0) (by rw[List.length_map]; exact hpos)⟩,ldV ls n,hL.cell (by rw[Nat.mul_one]; exact hget),n,rfl,n+1,ArOk.to (by omega) (by omega) (by omega),by rw[rn_len _ _ rfl rfl]; omega,leaf _ rfl _ rfl⟩
    ·have hz:ls.length=0:=by have:=of_decide_eq_false hneg; omega
     exact⟨n,rfl,n+1,ArOk.to (by omega) (by omega) (by omega),by rw[rn_len _ _ rfl rfl]; omega,leaf 0 (by unfold ldV; rw[if_pos hz]) _ rfl⟩
   ·have h3:=ne_of_beq_false h
    (refine Y_go 600 ?_; dsimp only[go_sem,Nat.reduceBEq,reduceAdd])
    have fi:∀ (i':Bool),(i'=if e.kind=5 then true else if e.kind=6 then false else inn)→(⟨[r0,r1,r2,r3,r4,r5,r6,r7],e.next,i',n,[s0,s1,s2,s3,s4,s5,s6,s7]⟩:Rn)=stepR e (ldV ls n) ⟨[r0,r1,r2,r3,r4,r5,r6,r7],pc,inn,n,[s0,s1,s2,s3,s4,s5,s6,s7]⟩:=fun i' hi=>by
     unfold stepR; rw[if_neg (fun k=>k he),hi]; simp[h1,h3]
    refine⟨fun h=>?_,fun h=>⟨fun h6=>?_,fun h6=>?_⟩⟩
    ·have h:=eq_of_beq h
     refine⟨by rw[rn_len _ _ rfl rfl]; omega,by rw[zj1l,rn_len _ _ rfl rfl]; omega,?_⟩
     exact fin _ ⟨[r0,r1,r2,r3,r4,r5,r6,r7],e.next,true,n,[s0,s1,s2,s3,s4,s5,s6,s7]⟩ 0 _ rfl he.symm (fi true (by rw[if_pos h]))
    ·have h:=ne_of_beq_false h
     have h6:=eq_of_beq h6
     refine⟨by rw[rn_len _ _ rfl rfl]; omega,by rw[zj1l,rn_len _ _ rfl rfl]; omega,?_⟩
     exact fin _ ⟨[r0,r1,r2,r3,r4,r5,r6,r7],e.next,false,n,[s0,s1,s2,s3,s4,s5,s6,s7]⟩ 0 _ rfl he.symm (fi false (by rw[if_neg h,if_pos h6]))
    ·have h:=ne_of_beq_false h
     have h6:=ne_of_beq_false h6
     refine⟨by rw[rn_len _ _ rfl rfl]; omega,?_⟩
     exact fin _ ⟨[r0,r1,r2,r3,r4,r5,r6,r7],e.next,inn,n,[s0,s1,s2,s3,s4,s5,s6,s7]⟩ 0 _ rfl he.symm (fi inn (by rw[if_neg h,if_neg h6]))
 have c19:∀ g6,e.kind ≠ 0→¬ (e.kind=5∧inn=true)→¬ (e.kind=6∧inn=false)→¬ (e.kind=7∧inn=true)→G (cxOf Tryz.prog Tryz.f8 K8 T8 R) ⟨b0,N,stl,152,[]⟩ [.code (.ref 19),.blk 0,.code (.ref 24)] { F:=[(0,.ptr 0 0),(4,.ptr 1 0),(5,.val (.int .i64 0)),(6,.ptr 2 0)],H:=[.row g 37 (rnV ⟨[r0,r1,r2,r3,r4,r5,r6,r7],pc,inn,n,[s0,s1,s2,s3,s4,s5,s6,s7]⟩ (.slice LA ls.length lc)),.cells g4 39 [.val (.int .i64 0),.val (.int .i64 0),.val (.int .i64 0),.val (.int .u64 0),.val (.int .u64 0)],.cells g6 39 [.val (.int .i64 e.kind),.val (.int .i64 e.next),.val (.int .i64 e.reg),.val (.int .u64 e.value),.val (.int .u64 e.addr)]] }:=by
  intro g6 h0 h5 h6 h7
  (refine Y_go 9 ?_; dsimp only[go_sem,Nat.reduceBEq,reduceAdd,Y_0])
  refine⟨fun h=>?_,fun h=>?_⟩
  ·have h:=eq_of_beq h
   (refine Y_go 600 ?_; dsimp only[go_sem,Nat.reduceBEq,reduceAdd])
   exact fin _ _ 1 _ rfl (by unfold endN; rw[if_neg h0,if_neg h5,if_neg h6,if_neg h7,if_pos h]) (by unfold stepR; rw[if_pos]; unfold endN; rw[if_neg h0,if_neg h5,if_neg h6,if_neg h7,if_pos h]; decide)
  ·have h:=ne_of_beq_false h
   exact fun a W rep=>c18 g6 (by unfold endN; rw[if_neg h0,if_neg h5,if_neg h6,if_neg h7,if_neg h]) a W (rep.lq)
 have c20:∀ g6,e.kind ≠ 0→¬ (e.kind=5∧inn=true)→¬ (e.kind=6∧inn=false)→G (cxOf Tryz.prog Tryz.f8 K8 T8 R) ⟨b0,N,stl,152,[]⟩ [.code (.ref 20),.blk 0,.code (.ref 24)] { F:=[(0,.ptr 0 0),(4,.ptr 1 0),(5,.val (.int .i64 0)),(6,.ptr 2 0)],H:=[.row g 37 (rnV ⟨[r0,r1,r2,r3,r4,r5,r6,r7],pc,inn,n,[s0,s1,s2,s3,s4,s5,s6,s7]⟩ (.slice LA ls.length lc)),.cells g4 39 [.val (.int .i64 0),.val (.int .i64 0),.val (.int .i64 0),.val (.int .u64 0),.val (.int .u64 0)],.cells g6 39 [.val (.int .i64 e.kind),.val (.int .i64 e.next),.val (.int .i64 e.reg),.val (.int .u64 e.value),.val (.int .u64 e.addr)]] }:=by
  intro g6 h0 h5 h6
  (refine Y_go 15 ?_; dsimp only[go_sem,Nat.reduceBEq,reduceAdd,Y_0])
  refine⟨fun h=>⟨inn,rfl,fun hi=>?_,fun hi=>?_⟩,fun h=>?_⟩
  ·have h:=eq_of_beq h
   (refine Y_go 600 ?_; dsimp only[go_sem,Nat.reduceBEq,reduceAdd])
   exact fin _ _ (-4) _ rfl (by unfold endN; rw[if_neg h0,if_neg h5,if_neg h6,if_pos ⟨h,hi⟩]) (by unfold stepR; rw[if_pos]; unfold endN; rw[if_neg h0,if_neg h5,if_neg h6,if_pos ⟨h,hi⟩]; decide)
  ·exact fun a W rep=>c19 g6 h0 h5 h6 (fun k=>by rw[hi] at k; cases k.2) a W (rep.lq)
  ·exact fun a W rep=>c19 g6 h0 h5 h6 (fun k=>ne_of_beq_false h k.1) a W (rep.lq)
 have c21:∀ g6,e.kind ≠ 0→¬ (e.kind=5∧inn=true)→G (cxOf Tryz.prog Tryz.f8 K8 T8 R) ⟨b0,N,stl,152,[]⟩ [.code (.ref 21),.blk 0,.code (.ref 24)] { F:=[(0,.ptr 0 0),(4,.ptr 1 0),(5,.val (.int .i64 0)),(6,.ptr 2 0)],H:=[.row g 37 (rnV ⟨[r0,r1,r2,r3,r4,r5,r6,r7],pc,inn,n,[s0,s1,s2,s3,s4,s5,s6,s7]⟩ (.slice LA ls.length lc)),.cells g4 39 [.val (.int .i64 0),.val (.int .i64 0),.val (.int .i64 0),.val (.int .u64 0),.val (.int .u64 0)],.cells g6 39 [.val (.int .i64 e.kind),.val (.int .i64 e.next),.val (.int .i64 e.reg),.val (.int .u64 e.value),.val (.int .u64 e.addr)]] }:=by
  intro g6 h0 h5
  (refine Y_go 16 ?_; dsimp only[go_sem,Nat.reduceBEq,reduceAdd,Y_0])
  refine⟨fun h=>⟨inn,rfl,fun hi=>?_,fun hi=>?_⟩,fun h=>?_⟩
  ·have h:=eq_of_beq h
   have hi:inn=false:=by simpa using hi
   (refine Y_go 600 ?_; dsimp only[go_sem,Nat.reduceBEq,reduceAdd])
   exact fin _ _ (-2) _ rfl (by unfold endN; rw[if_neg h0,if_neg h5,if_pos ⟨h,hi⟩]) (by unfold stepR; rw[if_pos]; unfold endN; rw[if_neg h0,if_neg h5,if_pos ⟨h,hi⟩]; decide)
  ·have hi:inn=true:=by simpa using hi
   exact fun a W rep=>c20 g6 h0 h5 (fun k=>by rw[hi] at k; cases k.2) a W (rep.lq)
  ·exact fun a W rep=>c20 g6 h0 h5 (fun k=>ne_of_beq_false h k.1) a W (rep.lq)
 have c22:∀ g6,e.kind ≠ 0→G (cxOf Tryz.prog Tryz.f8 K8 T8 R) ⟨b0,N,stl,152,[]⟩ [.code (.ref 22),.blk 0,.code (.ref 24)] { F:=[(0,.ptr 0 0),(4,.ptr 1 0),(5,.val (.int .i64 0)),(6,.ptr 2 0)],H:=[.row g 37 (rnV ⟨[r0,r1,r2,r3,r4,r5,r6,r7],pc,inn,n,[s0,s1,s2,s3,s4,s5,s6,s7]⟩ (.slice LA ls.length lc)),.cells g4 39 [.val (.int .i64 0),.val (.int .i64 0),.val (.int .i64 0),.val (.int .u64 0),.val (.int .u64 0)],.cells g6 39 [.val (.int .i64 e.kind),.val (.int .i64 e.next),.val (.int .i64 e.reg),.val (.int .u64 e.value),.val (.int .u64 e.addr)]] }:=by
  intro g6 h0
  (refine Y_go 15 ?_; dsimp only[go_sem,Nat.reduceBEq,reduceAdd,Y_0])
  refine⟨fun h=>⟨inn,rfl,fun hi=>?_,fun hi=>?_⟩,fun h=>?_⟩
  ·have h:=eq_of_beq h
   (refine Y_go 600 ?_; dsimp only[go_sem,Nat.reduceBEq,reduceAdd])
   exact fin _ _ (-3) _ rfl (by unfold endN; rw[if_neg h0,if_pos ⟨h,hi⟩]) (by unfold stepR; rw[if_pos]; unfold endN; rw[if_neg h0,if_pos ⟨h,hi⟩]; decide)
  ·exact fun a W rep=>c21 g6 h0 (fun k=>by rw[hi] at k; cases k.2) a W (rep.lq)
  ·exact fun a W rep=>c21 g6 h0 (fun k=>ne_of_beq_false h k.1) a W (rep.lq)
 have cont:∀ g6,G (cxOf Tryz.prog Tryz.f8 K8 T8 R) ⟨b0,N,stl,152,[]⟩ [.code (.ref 25)] { F:=[(0,.ptr 0 0),(4,.ptr 1 0),(5,.val (.int .i64 0)),(6,.ptr 2 0)],H:=[.row g 37 (rnV ⟨[r0,r1,r2,r3,r4,r5,r6,r7],pc,inn,n,[s0,s1,s2,s3,s4,s5,s6,s7]⟩ (.slice LA ls.length lc)),.cells g4 39 [.val (.int .i64 0),.val (.int .i64 0),.val (.int .i64 0),.val (.int .u64 0),.val (.int .u64 0)],.cells g6 39 [.val (.int .i64 e.kind),.val (.int .i64 e.next),.val (.int .i64 e.reg),.val (.int .u64 e.value),.val (.int .u64 e.addr)]] }:=by
  intro g6
  (refine Y_go 11 ?_; dsimp only[go_sem,Nat.reduceBEq,reduceAdd,Y_0])
  refine⟨fun h=>?_,fun h=>?_⟩
  ·have h:=eq_of_beq h
   (refine Y_go 600 ?_; dsimp only[go_sem,Nat.reduceBEq,reduceAdd])
   exact fin _ _ (-1) _ rfl (by unfold endN; rw[if_pos h]) (by unfold stepR; rw[if_pos]; unfold endN; rw[if_pos h]; decide)
  ·have h:=ne_of_beq_false h
   exact fun a W rep=>c22 g6 h a W (rep.lq)
 refine⟨_,rfl,⟨hp,(by omega:pc < l.length),sB⟩,_,cl 0 _ (by omega) rfl,_,cl 1 _ (by omega) rfl,_,cl 2 _ (by omega) rfl,_,cl 3 _ (by omega) rfl,_,cl 4 _ (by omega) rfl,_,rfl,_,rfl,_,rfl,_,rfl,_,rfl,_,rfl,_,rfl,_,rfl,_,rfl,?_,fun g6=>?_⟩
 ·refine zj1p (vs:=[In.val x,.agg #[.int .u64 r0,.int .u64 r1,.int .u64 r2,.int .u64 r3,.int .u64 r4,.int .u64 r5,.int .u64 r6,.int .u64 r7],.int .i64 pc]) rfl (fun W hW=>hdo W (RowE.at hG (HeapOk.env (E:=⟨b0,N,stl,152,[]⟩) (E':=⟨b0,N,stl,nt0,mk0⟩) rfl rfl rfl hW))) fun v hv=>⟨.agg [.val (.int .i64 e.kind),.val (.int .i64 e.next),.val (.int .i64 e.reg),.val (.int .u64 e.value),.val (.int .u64 e.addr)],by rw[hv]; exact Ef.is _ e,?_⟩
  (refine gt_y rfl hQ 0 ?_; dsimp only[go_sem,YT_k,YT_done,Nat.reduceBEq,Y_0,reduceAdd])
  exact fun g6 a W rep=>cont g6 a W (rep.lq)
 ·refine zj1p (vs:=[In.val x,.agg #[.int .u64 r0,.int .u64 r1,.int .u64 r2,.int .u64 r3,.int .u64 r4,.int .u64 r5,.int .u64 r6,.int .u64 r7],.int .i64 pc]) rfl (fun W hW=>hdo W (RowE.at hG (HeapOk.env (E:=⟨b0,N,stl,152,[]⟩) (E':=⟨b0,N,stl,nt0,mk0⟩) rfl rfl rfl hW))) fun v hv=>⟨.agg [.val (.int .i64 e.kind),.val (.int .i64 e.next),.val (.int .i64 e.reg),.val (.int .u64 e.value),.val (.int .u64 e.addr)],by rw[hv]; exact Ef.is _ e,?_⟩
  (refine gt_y rfl hQ 0 ?_; dsimp only[go_sem,YT_k,YT_done,Nat.reduceBEq,Y_0,reduceAdd])
  exact fun a W rep=>cont g6 a W (rep.lq)
open Go.Asm
theorem rn_get (s:Rn) (L:Value) (i:Nat) (v:Value) (h8:s.rs.length=8) (hi:([.int .i64 s.pc,.bool s.inn,L,.int .i64 s.n]:List Value)[i]? = some v):(rnV s L)[8+i]? = some v:=by
 have hl:=(List.getElem?_eq_some_iff.1 hi).1
 unfold rnV
 rw[List.getElem?_append_right (by rw[List.length_map,h8]; omega),List.length_map,h8,show 8+i - 8=i by omega,List.getElem?_append_left hl]
 exact hi
def rn0 (rs:List Int):Rn:=⟨rs,0,false,0,[false,false,false,false,false,false,false,false]⟩
theorem rn0_ok (l:List In) (rs:List Int) (hr:rs.length=8) (hU:∀ v ∈ rs,isU v):RnOk l (rn0 rs) :=
 ⟨hr,rfl,hU,Int.le_refl 0,Int.le_refl 0,by show (0:Int)≤1024; decide,.start,fun _ _=>.start⟩
theorem ldV_isU {ls:List Int} (h:∀ v ∈ ls,isU v) (n:Int):isU (ldV ls n):=by
 unfold ldV
 split
 ·unfold isU; omega
 ·rw[List.getD_eq_getElem?_getD]
  cases hk:ls[(n % ls.length).toNat]? with
  | none=>simp[isU]
  | some v=>exact h v (List.mem_of_getElem? hk)
theorem step_n (e:Ef) (ld:Int) (s:Rn):(stepR e ld s).n≤s.n+1:=by
 unfold stepR
 split
 ·omega
 ·dsimp only; split <;> omega
theorem step_len (e:Ef) (ld:Int) (s:Rn):(stepR e ld s).rs.length=s.rs.length:=by
 unfold stepR
 split
 ·rfl
 ·dsimp only
  split
  ·simp
  ·split <;> simp
def ops10:List XS:=match T3n10 with
 | .seq (.ops (_ :: _ :: l)) _=>l
 | _=>[]
theorem law3 (l:List In) (B:Option Addr) (bc:Nat) (rs rt ls:List Int) (LA:Option Addr) (lc:Nat) (w:World) (hB:RowAt w B (cellsI l)) (hr:rs.length=8) (hU:∀ v ∈ rs,isU v) (ht:rt.length=8) (hV:∀ v ∈ rt,isU v) (hL:RowAt w LA (ls.map uV)) (hLU:∀ v ∈ ls,isU v) (hG:ShAt w) (hN:NmAt w) (hT:TabAt w) (hLb:LibAt w) :
  CallsV Tryz.prog 3 [.slice B l.length bc,.agg ((rs++rt).map uV).toArray,.slice LA ls.length lc] w fun v w'=>Fresh w w'∧v=.bool true:=by
 obtain⟨r0,r1,r2,r3,r4,r5,r6,r7,rfl⟩:=list8 hr
 obtain⟨q0,q1,q2,q3,q4,q5,q6,q7,rfl⟩:=list8 ht
 refine zj05 (keep:=K3) (nt:=109) (svs:=[.val (.slice B l.length bc),.agg [.val (uV r0),.val (uV r1),.val (uV r2),.val (uV r3),.val (uV r4),.val (uV r5),.val (uV r6),.val (uV r7),.val (uV q0),.val (uV q1),.val (uV q2),.val (uV q3),.val (uV q4),.val (uV q5),.val (uV q6),.val (uV q7)],.val (.slice LA ls.length lc)]) Tryz.func3 x3 n3 (by simp) (by simp only[IsL,Is]; exact⟨_,_,rfl,⟨_,_,⟨_,⟨_,_,rfl,⟨_,_,rfl,⟨_,_,rfl,⟨_,_,rfl,⟨_,_,rfl,⟨_,_,rfl,⟨_,_,rfl,⟨_,_,rfl,⟨_,_,rfl,⟨_,_,rfl,⟨_,_,rfl,⟨_,_,rfl,⟨_,_,rfl,⟨_,_,rfl,⟨_,_,rfl,⟨_,_,rfl,rfl,rfl⟩,rfl⟩,rfl⟩,rfl⟩,rfl⟩,rfl⟩,rfl⟩,rfl⟩,rfl⟩,rfl⟩,rfl⟩,rfl⟩,rfl⟩,rfl⟩,rfl⟩,rfl⟩,rfl⟩,⟨_,_,rfl,rfl,rfl⟩,rfl⟩,rfl⟩) fun R hR=>?_
 (refine Y_go 600 ?_; dsimp only[go_sem,uV,reduceAdd,Nat.reduceBEq])
 intro g4
 refine zj00 (vs:=[]) rfl (fun W hW=>alive20 W (hG.keep hW.fresh') (hN.keep hW.fresh') (hT.keep hW.fresh') (hLb.keep hW.fresh')) fun v hv=>⟨.bt,by rw[hv]; simp[Is],?_⟩
 (refine Y_go 600 ?_; dsimp only[go_sem,Nat.reduceBEq])
 have done:∀ F H,denAll H F [6]=some [.bool true]→RetG (cxOf Tryz.prog Tryz.f3 K3 T3 R) ⟨w,w.heap.size,[],109,[]⟩ { F:=F,H:=H }:=fun F H hd =>
  zj03 (vs:=[.bool true]) Go.Proofs.YtgghmmjoplddbaaGreatDoor.r3 rfl hd fun W hW=>hR _ _ ⟨hW.fresh',rfl⟩
 refine⟨fun _=>done _ _ rfl,fun h1=>⟨fun _=>done _ _ rfl,fun h2=>?_⟩⟩
 have hl:l.length≤200:=by have:=of_decide_eq_false h1; omega
 have hll:ls.length≤200:=by have:=of_decide_eq_false h2; omega
 refine zj0j (vs:=[.slice B l.length bc]) rfl (R:=fun W v W'=>∃ (A:Option Addr) (c:Nat) (fs:List (Int × Int)),FoundOk l fs∧v=.tuple #[.slice A fs.length c,.int .i64 0]∧World.ownsB W' W.heap.size 33 2 (.slice A fs.length c) fs.length (fsV fs)∧Fresh W W') (fun W hW=>look22F l B bc W (by omega) (hB.keep hW.fresh') (hG.keep hW.fresh')) fun W v W' hW ⟨A,c,fs,hf,hv,ho,hk⟩=>?_
 have hfl:fs.length≤maxLen:=ownsB_max ho
 obtain⟨A',c',e1,e2,e5,_⟩:=hW.gain ho hk
 injection e1 with e3 _ e4
 subst e3; subst e4; subst hv
 refine⟨.tup [.own 1 0,.val (.int .i64 0)],_,?_,e2,e5,?_⟩
 ·simp only[Is,IsL]; exact⟨_,⟨_,_,⟨_,_,_,_,_,_,_,rfl,Nat.le_refl _,⟨_,_,_,rfl⟩,fun _=>rfl⟩,⟨_,_,rfl,rfl,rfl⟩,rfl⟩,rfl⟩
 clear e5 e2 hW ho hk
 simp only[maxLen] at hfl
 (refine Y_go 600 ?_; dsimp only[go_sem,Nat.reduceBEq])
 refine⟨fun h=>absurd h (by decide),fun _=>?_⟩
 refine zj0m (α:=Nat) (fun i=>i≤fs.length∧∀ x ∈ fs.take i,x.1 ≠ 7) (fun _=>⟨w,w.heap.size,[],109,[]⟩)
  (fun i=>{ F:=[(0,.val (.slice B l.length bc)),(2,.val (.slice LA ls.length lc)),(4,.ptr 0 0),(7,.bt),(8,.own 1 0),(40,.val (.int .i64 (fs.length:Int))),(41,.val (.int .i64 (i:Int)))],H:=[.cells g4 25 [.val (.int .u64 r0),.val (.int .u64 r1),.val (.int .u64 r2),.val (.int .u64 r3),.val (.int .u64 r4),.val (.int .u64 r5),.val (.int .u64 r6),.val (.int .u64 r7),.val (.int .u64 q0),.val (.int .u64 q1),.val (.int .u64 q2),.val (.int .u64 q3),.val (.int .u64 q4),.val (.int .u64 q5),.val (.int .u64 q6),.val (.int .u64 q7)],.own 33 0 2 A fs.length c (fsV fs)] }) (fun i=>fs.length - i) (fun _=>rfl) ?start ?round
 case start =>
  intro a W rep
  exact⟨0,⟨Nat.zero_le _,by simp⟩,rep.lq⟩
 case round =>
  rintro i ⟨hi,hno⟩ I again
  have hi1:((i:Nat):Int).toNat=i:=by omega
  (refine Y_go 600 ?_; dsimp only[go_sem,Nat.reduceBEq,Int.reduceToNat,Nat.reduceMul,reduceAdd])
  refine⟨fun hlt=>?_,fun hge=>?_⟩
  ·have hlt:i < fs.length:=by have:=of_decide_eq_true hlt; omega
   have hz:fs[i]? = some fs[i]:=List.getElem?_eq_getElem hlt
   generalize fs[i]=r at hz
   obtain⟨c0,c1⟩:=fsV_get fs i r hz
   rw[hi1]
   refine⟨⟨by omega,by omega⟩,r.1,c0,fun _=>done _ _ rfl,fun h=>?_⟩
   refine⟨((i+1:Nat):Int),ArOk.to (by omega) (by omega) (by omega),zj01 fun a W rep=>again (i+1) ⟨by omega,fun x hx=>?_⟩ (by show _ - (i+1) < _ - i; omega) a W (rep.lq)⟩
   rw[List.take_add_one,hz] at hx
   rcases List.mem_append.1 hx with hx | hx
   ·exact hno x hx
   ·simp at hx
    subst hx
    simpa using h
  ·have hie:i=fs.length:=by have:=of_decide_eq_false hge; omega
   subst hie
   rw[List.take_length] at hno
   have hun:∀ (p:Int) (b:Bool) (x:In) (r:Nat),0≤p→l[p.toNat]? = some x→legalB x=true→r < 8→(readsB x).getLsbD r=true→¬ Unset l r (p,b):=fun p b x r h0 hx hlg h1 h2 h3 =>
    hno _ ((hf.mem 7 p).2 (.inr (.inl ⟨rfl,x,h0,hx,hlg,r,b,h1,h2,h3⟩))) rfl
   refine⟨⟨by decide,by decide⟩,fun g11=>⟨⟨by decide,by decide⟩,fun g12=>?_⟩⟩
   refine zj0m (α:=Rn × Rn × Nat) (fun q=>RnOk l q.1∧RnOk l q.2.1∧Go.Lint.Alike q.1 q.2.1∧q.1.n≤q.2.2∧q.2.2≤300) (fun _=>⟨w,w.heap.size,[],109,[]⟩)
    (fun q=>{ F:=[(0,.val (.slice B l.length bc)),(7,.bt),(11,.ptr 0 0),(12,.ptr 1 0),(13,.val (.int .i64 (q.2.2:Int)))],H:=[.row g11 37 (rnV q.1 (.slice LA ls.length lc)),.row g12 37 (rnV q.2.1 (.slice LA ls.length lc))] }) (fun q=>300 - q.2.2) (fun _=>rfl) ?start2 ?round2
   case start2 =>
    intro a W rep
    refine⟨(rn0 [r0,r1,r2,r3,r4,r5,r6,r7],rn0 [q0,q1,q2,q3,q4,q5,q6,q7],0),⟨rn0_ok l _ rfl hU,rn0_ok l _ rfl hV,⟨rfl,rfl,rfl,rfl,fun r h=>?_⟩,by show (0:Int)≤0; decide,by show 0≤300; decide⟩,?_⟩
    ·exfalso
     have h:([false,false,false,false,false,false,false,false]:List Bool)[r]? = some true:=h
     have:=List.mem_of_getElem? h
     simp at this
    have h2:=(rep.torow 2 (xs:=rnV (rn0 [r0,r1,r2,r3,r4,r5,r6,r7]) (.slice LA ls.length lc)) rfl rfl).torow 3 (xs:=rnV (rn0 [q0,q1,q2,q3,q4,q5,q6,q7]) (.slice LA ls.length lc)) rfl rfl
    exact (h2.pick [2,3] (by decide)).lp
   case round2 =>
    rintro ⟨s,t,n⟩ ⟨hok,hot,hal,hn,hn3⟩ I2 again2
    simp only at hok hot hal hn hn3
    have cntB:n < 300→∀ x,l[s.pc.toNat]? = some x→s.pc < l.length→∀ g14,G (cxOf Tryz.prog Tryz.f3 K3 T3 R) ⟨w,w.heap.size,[],109,[]⟩ [.ops ops10,.code (.ref 9),.blk 3,.code (.ref 11),.lend I2,.blk 2,.code (.ref 14)] { F:=[(0,.val (.slice B l.length bc)),(7,.bt),(11,.ptr 1 0),(12,.ptr 0 0),(13,.val (.int .i64 (n:Int))),(14,.ptr 2 0),(15,.val (.int .i64 (endN (doB x s.rs s.pc) s.inn))),(82,.ptr 0 0),(83,.val (.slice B l.length bc))],H:=[.row g12 37 (rnV t (.slice LA ls.length lc)),.row g11 37 (rnV (stepR (doB x s.rs s.pc) (ldV ls s.n) s) (.slice LA ls.length lc)),.cells g14 39 [.val (.int .i64 (doB x s.rs s.pc).kind),.val (.int .i64 (doB x s.rs s.pc).next),.val (.int .i64 (doB x s.rs s.pc).reg),.val (.int .u64 (doB x s.rs s.pc).value),.val (.int .u64 (doB x s.rs s.pc).addr)]] }:=by
     intro hn300 x hx hpl g14
     have hp0:=hok.p0
     have hn0:=hok.n0
     have hxt:l[t.pc.toNat]? = some x:=by rw[← hal.pc]; exact hx
     have hde:=alike_do hok hot hal hx (fun r hlg h1 h2=>hun s.pc s.inn x r hp0 hx hlg h1 h2)
     have hld:=ldV_isU hLU s.n
     have hstep:=fun he=>hok.step (ld:=ldV ls s.n) (by omega) hx hld he
     have hstept:=fun he=>hot.step (ld:=ldV ls s.n) (by omega) hxt hld he
     have halk:=alike_step (e:=doB x s.rs s.pc) (ld:=ldV ls s.n) (hok.r8.trans hot.r8.symm) hal
     have hsn:=step_n (doB x s.rs s.pc) (ldV ls s.n) s
     refine zj44 [.row g12 37 (rnV t (.slice LA ls.length lc))] [.row g11 37 (rnV (stepR (doB x s.rs s.pc) (ldV ls s.n) s) (.slice LA ls.length lc)),.cells g14 39 [.val (.int .i64 (doB x s.rs s.pc).kind),.val (.int .i64 (doB x s.rs s.pc).next),.val (.int .i64 (doB x s.rs s.pc).reg),.val (.int .u64 (doB x s.rs s.pc).value),.val (.int .u64 (doB x s.rs s.pc).addr)]] (vs:=[.pointer (some ⟨g12,0,none⟩),.slice B l.length bc]) (fun v H1'=>v=.tuple #[Ef.val (doB x s.rs s.pc),.int .i64 (endN (doB x s.rs s.pc) s.inn)]∧H1'=[.row g12 37 (rnV (stepR (doB x s.rs s.pc) (ldV ls s.n) t) (.slice LA ls.length lc))]) rfl rfl (fun W hW hW1=>?_) ?_
     ·obtain⟨_,ov⟩:=hW.rebase 109 []
      have toE:∀ (A:Option Addr) (xs:List Value),RowAt w A xs→RowE ⟨W,W.heap.size,fps [SO.row g12 37 (rnV t (.slice LA ls.length lc))],0,[]⟩ A xs:=fun A xs h=>(RowAt.toE (st:=[]) h (by simp) 109 []).over (over_less 0 [] ov (by intro j hj; show _ ∈ fps _; simp only[fps,List.flatMap_append]; exact List.mem_append_left _ hj))
      have:=next8 (E0:=⟨W,W.heap.size,_,0,[]⟩) l B bc t ls LA lc g12 x hot.r8 hot.s8 hot.u hot.n0 (by rw[← hal.n]; omega) hot.p0 (by rw[← hal.pc]; omega) hxt (by omega) (toE _ _ hB) (toE _ _ hL) (toE _ _ hG) hW1
      rw[← hde,← hal.inn,← hal.n] at this
      refine this.mono fun v W' ⟨h1,h2⟩=>⟨_,⟨h1,rfl⟩,?_,rfl,h2⟩
      exact HExt.setBlk (H:=[.row g12 37 (rnV t (.slice LA ls.length lc))]) (i:=0) rfl rfl rfl
     ·rintro v H1' ⟨rfl,rfl⟩
      rw[← hde] at hstept
      rw[← hal.inn] at hstept
      clear hde
      have hs8:(stepR (doB x s.rs s.pc) (ldV ls s.n) s).rs.length=8:=(step_len _ _ _).trans hok.r8
      have ht8:(stepR (doB x s.rs s.pc) (ldV ls s.n) t).rs.length=8:=(step_len _ _ _).trans hot.r8
      generalize doB x s.rs s.pc=e at *
      generalize stepR e (ldV ls s.n) s=s' at *
      generalize stepR e (ldV ls s.n) t=t' at *
      obtain⟨z,hz⟩:∃ z,endN e s.inn=z:=⟨_,rfl⟩
      rw[hz] at hstep hstept ⊢
      refine⟨.tup [Ef.sv e,.val (.int .i64 z)],by simp only[Is,IsL]; exact⟨_,⟨_,_,Ef.is _ e,⟨_,_,rfl,rfl,rfl⟩,rfl⟩,rfl⟩,?_⟩
      simp only[putF,List.singleton_append]
      (refine Y_go 600 ?_; dsimp only[go_sem,Ef.sv,Nat.reduceBEq,reduceAdd])
      intro g16
      refine⟨fun h=>absurd h (by simp),fun _=>⟨fun h=>absurd h (by simp),fun _=>⟨s'.pc,rn_get s' _ 0 _ hs8 rfl,t'.pc,rn_get t' _ 0 _ ht8 rfl,fun h=>absurd h (by rw[halk.pc]; simp),fun _=>⟨fun _=>done _ _ rfl,fun hz0=>?_⟩⟩⟩⟩
      have hz0:z=0:=by simpa using hz0
      refine⟨_,.add64 (by omega) (by omega),zj01 fun a W rep=>again2 (s',t',n+1) ⟨hstep hz0,hstept hz0,halk,by show s'.n≤((n+1:Nat):Int); omega,by show n+1≤300; omega⟩ (by show 300 - (n+1) < 300 - n; omega) a W ((rep.pick [1,0] (by decide)).lp)⟩
    (refine Y_go 600 ?_; dsimp only[go_sem,Nat.reduceBEq,reduceAdd])
    refine⟨fun hlt=>⟨s.pc,rn_get s _ 0 _ hok.r8 rfl,fun hltc=>?_,fun _=>done _ _ rfl⟩,fun _=>done _ _ rfl⟩
    have hpl:s.pc < l.length:=by have:=of_decide_eq_true hltc; omega
    have hn300:n < 300:=by have:=of_decide_eq_true hlt; omega
    have hp0:=hok.p0
    have hn0:=hok.n0
    have hx:l[s.pc.toNat]? = some l[s.pc.toNat]:=List.getElem?_eq_getElem (by omega)
    have cntB:=cntB hn300 _ hx hpl
    generalize l[s.pc.toNat]=x at hx cntB
    refine zj44 [.row g11 37 (rnV s (.slice LA ls.length lc))] [.row g12 37 (rnV t (.slice LA ls.length lc))] (vs:=[.pointer (some ⟨g11,0,none⟩),.slice B l.length bc]) (fun v H1'=>v=.tuple #[Ef.val (doB x s.rs s.pc),.int .i64 (endN (doB x s.rs s.pc) s.inn)]∧H1'=[.row g11 37 (rnV (stepR (doB x s.rs s.pc) (ldV ls s.n) s) (.slice LA ls.length lc))]) rfl rfl (fun W hW hW1=>?_) ?_
    ·obtain⟨_,ov⟩:=hW.rebase 109 []
     have toE:∀ (A:Option Addr) (xs:List Value),RowAt w A xs→RowE ⟨W,W.heap.size,fps [SO.row g11 37 (rnV s (.slice LA ls.length lc))],0,[]⟩ A xs:=fun A xs h=>(RowAt.toE (st:=[]) h (by simp) 109 []).over (over_less 0 [] ov (by intro j hj; show _ ∈ fps _; simp only[fps,List.flatMap_append]; exact List.mem_append_left _ hj))
     refine (next8 (E0:=⟨W,W.heap.size,_,0,[]⟩) l B bc s ls LA lc g11 x hok.r8 hok.s8 hok.u hn0 (by omega) hp0 (by omega) hx (by omega) (toE _ _ hB) (toE _ _ hL) (toE _ _ hG) hW1).mono fun v W' ⟨h1,h2⟩=>⟨_,⟨h1,rfl⟩,?_,rfl,h2⟩
     exact HExt.setBlk (H:=[.row g11 37 (rnV s (.slice LA ls.length lc))]) (i:=0) rfl rfl rfl
    ·rintro v H1' ⟨rfl,rfl⟩
     generalize doB x s.rs s.pc=e at *
     generalize stepR e (ldV ls s.n) s=s' at *
     generalize endN e s.inn=z at *
     refine⟨.tup [Ef.sv e,.val (.int .i64 z)],by simp only[Is,IsL]; exact⟨_,⟨_,_,Ef.is _ e,⟨_,_,rfl,rfl,rfl⟩,rfl⟩,rfl⟩,?_⟩
     simp only[putF,List.singleton_append]
     (refine Y_go 600 ?_; dsimp only[go_sem,Ef.sv,Nat.reduceBEq,reduceAdd])
     intro g14
     exact fun a W rep=>cntB g14 a W ((rep.pick [1,0,2] (by decide)).lp)
end Go.Proofs.YtgghmmjoplddbaaGreatDoor
