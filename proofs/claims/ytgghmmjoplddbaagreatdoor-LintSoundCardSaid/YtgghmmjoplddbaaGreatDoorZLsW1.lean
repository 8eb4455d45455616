/- A run, instruction by instruction: next. -/
import Derived.Test.YtgghmmjoplddbaaGreatDoorZDoW1
import Derived.Test.YtgghmmjoplddbaaGreatDoorZLsCode
import Derived.Test.YtgghmmjoplddbaaGreatDoorZLaPlain
import Derived.Test.YtgghmmjoplddbaaGreatDoorZOcPl
set_option linter.unusedSimpArgs false
set_option linter.unusedVariables false
set_option linter.unnecessarySimpa false
namespace Go.Proofs.YtgghmmjoplddbaaGreatDoor
open Go Go.Sx Go.Isa Go.Lint
open Nat (reduceAdd reduceLT)
set_option maxRecDepth 100000
def rnV (s:Rn) (L:Value):List Value:=s.rs.map uV++([.int .i64 s.pc,.bool s.inn,L,.int .i64 s.n]++s.st.map Value.bool)
theorem set_app {α:Type} (a b:List α) (i:Nat) (v:α) (h:i < a.length):setn (a++b) i v=a.set i v++b:=by
 rw[zj13,List.set_append_left _ _ h]
theorem zj4e {α:Type} (a b:List α) (i:Nat) (v:α):setn (a++b) (a.length+i) v=a++setn b i v:=by
 rw[zj13,zj13,List.set_append_right _ _ (by omega)]
 congr 2; omega
theorem rn_reg (s:Rn) (L:Value) (i:Nat) (v:Int) (h:i < s.rs.length):setn (rnV s L) i (uV v)=rnV { s with rs:=s.rs.set i v } L:=by
 unfold rnV
 rw[set_app _ _ _ _ (by simpa using h),List.map_set]
theorem rn_st (s:Rn) (L:Value) (i:Nat) (h8:s.rs.length=8):setn (rnV s L) (12+i) (.bool true)=rnV { s with st:=s.st.set i true } L:=by
 unfold rnV
 have e:12+i=(s.rs.map uV).length+(4+i):=by rw[List.length_map,h8]; omega
 rw[e,zj4e]
 have e2:4+i=([.int .i64 s.pc,.bool s.inn,L,.int .i64 s.n]:List Value).length+i:=by simp
 rw[e2,zj4e,zj13,List.map_set]
theorem rn_pc (s:Rn) (L:Value) (v:Int) (h8:s.rs.length=8):setn (rnV s L) 8 (.int .i64 v)=rnV { s with pc:=v } L:=by
 unfold rnV
 have e:8=(s.rs.map uV).length+0:=by rw[List.length_map,h8]
 conv=>lhs; rw[e]
 rw[zj4e]; rfl
theorem rn_n (s:Rn) (L:Value) (v:Int) (h8:s.rs.length=8):setn (rnV s L) 11 (.int .i64 v)=rnV { s with n:=v } L:=by
 unfold rnV
 have e:11=(s.rs.map uV).length+3:=by rw[List.length_map,h8]
 conv=>lhs; rw[e]
 rw[zj4e]; rfl
theorem rn_len (s:Rn) (L:Value) (h8:s.rs.length=8) (k8:s.st.length=8):(rnV s L).length=20:=by simp[rnV,h8,k8]
theorem zj1n {α:Type} (l:List α) (i:Nat) (v:α):(setn l i v).length=l.length:=by rw[zj13,List.length_set]
theorem list8 {α:Type} {l:List α} (h:l.length=8):∃ a0 a1 a2 a3 a4 a5 a6 a7,l=[a0,a1,a2,a3,a4,a5,a6,a7]:=by
 match l,h with
 | [a0,a1,a2,a3,a4,a5,a6,a7],_=>exact⟨a0,a1,a2,a3,a4,a5,a6,a7,rfl⟩
theorem over_less {E A:Env} {st:List Nat} (nt:Nat) (mk:List Nat) (h:Over E A) (hs:∀ j ∈ st,j ∈ A.stolen):Over E ⟨A.b,A.N,st,nt,mk⟩ :=
 ⟨h.keep,fun j hj=>⟨(h.sub j hj).1,fun hm=>(h.sub j hj).2 (hs j hm)⟩,h.floor⟩
def ldV (ls:List Int) (n:Int):Int:=if ls.length=0 then 0 else ls.getD (n % ls.length).toNat 0
theorem next8 {E0:Env} {W:World} (l:List In) (B:Option Addr) (bc:Nat) (s:Rn) (ls:List Int) (LA:Option Addr) (lc:Nat) (g:Nat) (x:In)
  (h8:s.rs.length=8) (k8:s.st.length=8) (hU:∀ v ∈ s.rs,isU v) (hn0:0≤s.n) (hn1:s.n≤1000000) (hp:0≤s.pc) (hpl:s.pc < 1024) (hx:l[s.pc.toNat]? = some x) (hls:ls.length≤1000000)
  (hB:RowE E0 B (cellsI l)) (hL:RowE E0 LA (ls.map uV)) (hG:RowE E0 (some ⟨0,0,none⟩) shL) (hW:HeapOk E0 [.row g 37 (rnV s (.slice LA ls.length lc))] W) :
  CallsV Tryz.prog 8 [.pointer (some ⟨g,0,none⟩),.slice B l.length bc] W fun v W'=>v=.tuple #[Ef.val (doB x s.rs s.pc),.int .i64 (endN (doB x s.rs s.pc) s.inn)]∧HeapOk E0 [.row g 37 (rnV (stepR (doB x s.rs s.pc) (ldV ls s.n) s) (.slice LA ls.length lc))] W':=by
 obtain⟨b0,N,stl,nt0,mk0⟩:=E0
 obtain⟨rs,pc,inn,n,st⟩:=s
 obtain⟨r0,r1,r2,r3,r4,r5,r6,r7,rfl⟩:=list8 h8
 obtain⟨s0,s1,s2,s3,s4,s5,s6,s7,rfl⟩:=list8 k8
 refine zj32 (keep:=K8) (nt:=152) (svs:=[.ptr 0 0,.val (.slice B l.length bc)]) Tryz.func8 x8 n8 (by simp) hW ?_ fun R hR=>?_
 ·simp only[IsL,Is,blk,nth]
  exact⟨_,_,⟨_,rfl,rfl⟩,⟨_,_,rfl,rfl,rfl⟩,rfl⟩
 have hQ:zj0c (endPost Tryz.prog Tryz.f8 R):=zj1v _ _ _
 (refine Y_go 600 ?_; dsimp only[go_sem,reduceAdd,Nat.reduceBEq])
 intro g4
 (refine alt_y rfl hQ 600 ?_; dsimp only[go_sem,YT_k,YT_alt,YT_call,Nat.reduceBEq,reduceAdd])
 have hgx:=List.getElem?_eq_some_iff.1 hx
 have hlt:pc.toNat < l.length:=hgx.1
 have cl:∀ k v,k < 5→x.cells[k]? = some v→CellAt ⟨b0,N,stl,152,[]⟩ B (pc.toNat*5+k) v:=fun k v hk hv=>hB.cell (by
  rw[zj1k l hlt hk]
  rw[show l[pc.toNat]=x from hgx.2]; exact hv)
 have sB:B.isSome=true:=hB.isSome (j:=pc.toNat*5) (by rw[zj1c]; omega)
 have hdo:=fun W hW=>do24 x [r0,r1,r2,r3,r4,r5,r6,r7] pc W hW rfl hU
 have hsets:=fun (hl:legalB x=true)=>do_sets (r:=[r0,r1,r2,r3,r4,r5,r6,r7]) hl hp hpl
 have hkind:=do_kind x [r0,r1,r2,r3,r4,r5,r6,r7] pc
 have hend:endN (doB x [r0,r1,r2,r3,r4,r5,r6,r7] pc) inn=0→legalB x=true:=fun he=>by
  cases hl:legalB x with
  | true=>rfl
  | false =>
   have:doB x [r0,r1,r2,r3,r4,r5,r6,r7] pc=Ef.zero:=by unfold doB; rw[if_neg (by simp[hl])]
   rw[this] at he; simp[endN,Ef.zero] at he
 generalize doB x [r0,r1,r2,r3,r4,r5,r6,r7] pc=e at *
 have fin:∀ (F:List (Nat × SV)) (s':Rn) (z:Int) (r:List SO),denR (.row g 37 (rnV s' (.slice LA ls.length lc)) :: r) F [RV.cell 4 5 true,RV.tmp 5]=some [Ef.val e,.int .i64 z]→z=endN e inn→s'=stepR e (ldV ls n) ⟨[r0,r1,r2,r3,r4,r5,r6,r7],pc,inn,n,[s0,s1,s2,s3,s4,s5,s6,s7]⟩→RetG (cxOf Tryz.prog Tryz.f8 K8 T8 R) ⟨b0,N,stl,152,[]⟩ { F:=F,H:=.row g 37 (rnV s' (.slice LA ls.length lc)) :: r }:=by
  intro F s' z r hd hz hs'
  subst hz; subst hs'
  refine ret_rv (vs:=[Ef.val e,.int .i64 (endN e inn)]) r8 rfl hd fun W hW=>hR _ _ ⟨rfl,?_⟩
  have h1:HeapOk ⟨b0,N,stl,152,[]⟩ [.row g 37 (rnV (stepR e (ldV ls n) ⟨[r0,r1,r2,r3,r4,r5,r6,r7],pc,inn,n,[s0,s1,s2,s3,s4,s5,s6,s7]⟩) (.slice LA ls.length lc))] W:=HeapOk.pre (H':=[_]) (r:=r) hW (by intro e he; simp only[List.mem_singleton] at he; subst he; rfl)
  exact HeapOk.env (E:=⟨b0,N,stl,152,[]⟩) (E':=⟨b0,N,stl,nt0,mk0⟩) rfl rfl rfl h1
 have c24:∀ (g6:Nat) (s':Rn),s'.rs.length=8→endN e inn=0→{ s' with pc:=e.next }=stepR e (ldV ls n) ⟨[r0,r1,r2,r3,r4,r5,r6,r7],pc,inn,n,[s0,s1,s2,s3,s4,s5,s6,s7]⟩→G (cxOf Tryz.prog Tryz.f8 K8 T8 R) ⟨b0,N,stl,152,[]⟩ [.code (.ref 24)] { F:=[(0,.ptr 0 0),(4,.ptr 1 0),(5,.val (.int .i64 0)),(6,.ptr 2 0)],H:=[.row g 37 (rnV s' (.slice LA ls.length lc)),.cells g4 39 [.val (.int .i64 0),.val (.int .i64 0),.val (.int .i64 0),.val (.int .u64 0),.val (.int .u64 0)],.cells g6 39 [.val (.int .i64 e.kind),.val (.int .i64 e.next),.val (.int .i64 e.reg),.val (.int .u64 e.value),.val (.int .u64 e.addr)]] }:=by
  intro g6 s' hr he hs
  (refine Y_go 600 ?_; dsimp only[go_sem,Nat.reduceBEq,reduceAdd])
  refine⟨by simp[rnV,hr]; omega,?_⟩
  rw[rn_pc s' _ _ hr]
  exact fin _ { s' with pc:=e.next } 0 _ rfl he.symm hs
 have hreg:e.kind=1∨e.kind=3→endN e inn=0→0≤e.reg∧e.reg < 8:=fun hk he=>by
  have h1:=hsets (hend he)
  have h2:=h1.2 (h1.1.1 hk)
  rw[h2.1]
  exact h2.2
 have hrow:∀ (v:Int) (m:Int) ,0≤e.reg∧e.reg < 8→setn (setn (setn (rnV ⟨[r0,r1,r2,r3,r4,r5,r6,r7],pc,inn,m,[s0,s1,s2,s3,s4,s5,s6,s7]⟩ (.slice LA ls.length lc)) (0+e.reg.toNat*1) (.int .u64 v)) (12+e.reg.toNat*1) (.bool true)) 8 (.int .i64 e.next)=rnV ⟨([r0,r1,r2,r3,r4,r5,r6,r7]:List Int).set e.reg.toNat v,e.next,inn,m,([s0,s1,s2,s3,s4,s5,s6,s7]:List Bool).set e.reg.toNat true⟩ (.slice LA ls.length lc):=fun v m hr=>by
  rw[Nat.zero_add,Nat.mul_one,show Value.int .u64 v=uV v from rfl,rn_reg _ _ _ _ (by simp; omega),rn_st _ _ _ (by simp),rn_pc _ _ _ (by simp)]
 have c18:∀ g6,endN e inn=0→G (cxOf Tryz.prog Tryz.f8 K8 T8 R) ⟨b0,N,stl,152,[]⟩ [.code (.ref 18),.blk 0,.code (.ref 24)] { F:=[(0,.ptr 0 0),(4,.ptr 1 0),(5,.val (.int .i64 0)),(6,.ptr 2 0)],H:=[.row g 37 (rnV ⟨[r0,r1,r2,r3,r4,r5,r6,r7],pc,inn,n,[s0,s1,s2,s3,s4,s5,s6,s7]⟩ (.slice LA ls.length lc)),.cells g4 39 [.val (.int .i64 0),.val (.int .i64 0),.val (.int .i64 0),.val (.int .u64 0),.val (.int .u64 0)],.cells g6 39 [.val (.int .i64 e.kind),.val (.int .i64 e.next),.val (.int .i64 e.reg),.val (.int .u64 e.value),.val (.int .u64 e.addr)]] }:=by
  intro g6 he
  (refine Y_go 9 ?_; dsimp only[go_sem,Nat.reduceBEq,reduceAdd,Y_0])
  refine⟨fun h=>?_,fun h=>?_⟩
  ·have h:=eq_of_beq h
   have hr:=hreg (.inl h) he
   (refine Y_go 600 ?_; dsimp only[go_sem,Nat.reduceBEq,reduceAdd])
   refine⟨hr,by rw[rn_len _ _ rfl rfl]; omega,hr,by rw[zj1n,rn_len _ _ rfl rfl]; omega,by rw[zj1n,zj1n,rn_len _ _ rfl rfl]; omega,?_⟩
   rw[hrow _ _ hr]
   exact fin _ ⟨([r0,r1,r2,r3,r4,r5,r6,r7]:List Int).set e.reg.toNat e.value,e.next,inn,n,([s0,s1,s2,s3,s4,s5,s6,s7]:List Bool).set e.reg.toNat true⟩ 0 _ rfl he.symm (by unfold stepR; rw[if_neg (fun k=>k he)]; simp[h])
  ·have h1:=ne_of_beq_false h
   (refine Y_go 9 ?_; dsimp only[go_sem,Nat.reduceBEq,reduceAdd,Y_0])
   refine⟨fun h=>?_,fun h=>?_⟩
   ·have h:=eq_of_beq h
    have hr:=hreg (.inr h) he
    have hn0:0≤n:=hn0
    have hn1:n≤1000000:=hn1
    (refine Y_go 600 ?_; dsimp only[go_sem,Nat.reduceBEq,reduceAdd])
    have q3:∀ v:Int,setn (rnV ⟨[r0,r1,r2,r3,r4,r5,r6,r7],pc,inn,n,[s0,s1,s2,s3,s4,s5,s6,s7]⟩ (.slice LA ls.length lc)) 11 (.int .i64 (n+1))=rnV ⟨[r0,r1,r2,r3,r4,r5,r6,r7],pc,inn,n+1,[s0,s1,s2,s3,s4,s5,s6,s7]⟩ (.slice LA ls.length lc):=fun _=>rn_n _ _ _ rfl
    have leaf:∀ v:Int,v=ldV ls n→∀ F,denR ([.row g 37 (rnV ⟨([r0,r1,r2,r3,r4,r5,r6,r7]:List Int).set e.reg.toNat v,e.next,inn,(n+1),([s0,s1,s2,s3,s4,s5,s6,s7]:List Bool).set e.reg.toNat true⟩ (.slice LA ls.length lc)),.cells g4 39 [.val (.int .i64 e.kind),.val (.int .i64 e.next),.val (.int .i64 e.reg),.val (.int .u64 e.value),.val (.int .u64 e.addr)],.cells g6 39 [.val (.int .i64 e.kind),.val (.int .i64 e.next),.val (.int .i64 e.reg),.val (.int .u64 e.value),.val (.int .u64 e.addr)]]) F [RV.cell 4 5 true,RV.tmp 5]=some [Ef.val e,.int .i64 0] →
      (0≤e.reg∧e.reg < ((8:Nat):Int))∧0+e.reg.toNat*1+1≤(setn (rnV ⟨[r0,r1,r2,r3,r4,r5,r6,r7],pc,inn,n,[s0,s1,s2,s3,s4,s5,s6,s7]⟩ (.slice LA ls.length lc)) 11 (.int .i64 (n+1))).length∧(0≤e.reg∧e.reg < ((8:Nat):Int))∧12+e.reg.toNat*1+1≤(setn (setn (rnV ⟨[r0,r1,r2,r3,r4,r5,r6,r7],pc,inn,n,[s0,s1,s2,s3,s4,s5,s6,s7]⟩ (.slice LA ls.length lc)) 11 (.int .i64 (n+1))) (0+e.reg.toNat*1) (.int .u64 v)).length∧9≤(setn (setn (setn (rnV ⟨[r0,r1,r2,r3,r4,r5,r6,r7],pc,inn,n,[s0,s1,s2,s3,s4,s5,s6,s7]⟩ (.slice LA ls.length lc)) 11 (.int .i64 (n+1))) (0+e.reg.toNat*1) (.int .u64 v)) (12+e.reg.toNat*1) (.bool true)).length ∧
      RetG (cxOf Tryz.prog Tryz.f8 K8 T8 R) ⟨b0,N,stl,152,[]⟩ { F:=F,H:=[.row g 37 (setn (setn (setn (setn (rnV ⟨[r0,r1,r2,r3,r4,r5,r6,r7],pc,inn,n,[s0,s1,s2,s3,s4,s5,s6,s7]⟩ (.slice LA ls.length lc)) 11 (.int .i64 (n+1))) (0+e.reg.toNat*1) (.int .u64 v)) (12+e.reg.toNat*1) (.bool true)) 8 (.int .i64 e.next)),.cells g4 39 [.val (.int .i64 e.kind),.val (.int .i64 e.next),.val (.int .i64 e.reg),.val (.int .u64 e.value),.val (.int .u64 e.addr)],.cells g6 39 [.val (.int .i64 e.kind),.val (.int .i64 e.next),.val (.int .i64 e.reg),.val (.int .u64 e.value),.val (.int .u64 e.addr)]] }:=by
     intro v hv F hd
     rw[q3 0,hrow _ _ hr]
     refine⟨hr,by rw[rn_len _ _ rfl rfl]; omega,hr,by rw[zj1n,rn_len _ _ rfl rfl]; omega,by rw[zj1n,zj1n,rn_len _ _ rfl rfl]; omega,?_⟩
     exact fin _ ⟨([r0,r1,r2,r3,r4,r5,r6,r7]:List Int).set e.reg.toNat v,e.next,inn,(n+1),([s0,s1,s2,s3,s4,s5,s6,s7]:List Bool).set e.reg.toNat true⟩ 0 _ hd he.symm (by unfold stepR; rw[if_neg (fun k=>k he)]; simp[h,hv])
    refine⟨LA,ls.length,lc,rfl,fun hpos=>?_,fun hneg=>?_⟩
    ·have hpos:0 < ls.length:=by have:=of_decide_eq_true hpos; omega
     have hm0:=Int.emod_nonneg n (b:=(ls.length:Int)) (by omega)
     have hm1:=Int.emod_lt_of_pos n (b:=(ls.length:Int)) (by omega)
     have hget:(ls.map uV)[(n % (ls.length:Int)).toNat]? = some (.int .u64 (ldV ls n)):=by
      rw[List.getElem?_map,List.getElem?_eq_getElem (by omega)]
      unfold ldV
      rw[if_neg (by omega),List.getD_eq_getElem?_getD,List.getElem?_eq_getElem (by omega)]
      rfl
     exact⟨LA,ls.length,lc,rfl,n,rfl,LA,ls.length,lc,rfl,_,.rem_nn hn0 (by omega),⟨hm0,hm1,hL.isSome (j:=0) (by rw[List.length_map]; exact hpos)⟩,ldV ls n,hL.cell (by rw[Nat.mul_one]; exact hget),n,rfl,n+1,ArOk.to (by omega) (by omega) (by omega),by rw[rn_len _ _ rfl rfl]; omega,leaf _ rfl _ rfl⟩
    ·have hz:ls.length=0:=by have:=of_decide_eq_false hneg; omega
     exact⟨n,rfl,n+1,ArOk.to (by omega) (by omega) (by omega),by rw[rn_len _ _ rfl rfl]; omega,leaf 0 (by unfold ldV; rw[if_pos hz]) _ rfl⟩
   ·have h3:=ne_of_beq_false h
    (refine Y_go 600 ?_; dsimp only[go_sem,Nat.reduceBEq,reduceAdd])
    have fi:∀ (i':Bool),(i'=if e.kind=5 then true else if e.kind=6 then false else inn)→(⟨[r0,r1,r2,r3,r4,r5,r6,r7],e.next,i',n,[s0,s1,s2,s3,s4,s5,s6,s7]⟩:Rn)=stepR e (ldV ls n) ⟨[r0,r1,r2,r3,r4,r5,r6,r7],pc,inn,n,[s0,s1,s2,s3,s4,s5,s6,s7]⟩:=fun i' hi=>by
     unfold stepR; rw[if_neg (fun k=>k he),hi]; simp[h1,h3]
    refine⟨fun h=>?_,fun h=>⟨fun h6=>?_,fun h6=>?_⟩⟩
    ·have h:=eq_of_beq h
     refine⟨by rw[rn_len _ _ rfl rfl]; omega,by rw[zj1n,rn_len _ _ rfl rfl]; omega,?_⟩
     exact fin _ ⟨[r0,r1,r2,r3,r4,r5,r6,r7],e.next,true,n,[s0,s1,s2,s3,s4,s5,s6,s7]⟩ 0 _ rfl he.symm (fi true (by rw[if_pos h]))
    ·have h:=ne_of_beq_false h
     have h6:=eq_of_beq h6
     refine⟨by rw[rn_len _ _ rfl rfl]; omega,by rw[zj1n,rn_len _ _ rfl rfl]; omega,?_⟩
     exact fin _ ⟨[r0,r1,r2,r3,r4,r5,r6,r7],e.next,false,n,[s0,s1,s2,s3,s4,s5,s6,s7]⟩ 0 _ rfl he.symm (fi false (by rw[if_neg h,if_pos h6]))
    ·have h:=ne_of_beq_false h
     have h6:=ne_of_beq_false h6
     refine⟨by rw[rn_len _ _ rfl rfl]; omega,?_⟩
     exact fin _ ⟨[r0,r1,r2,r3,r4,r5,r6,r7],e.next,inn,n,[s0,s1,s2,s3,s4,s5,s6,s7]⟩ 0 _ rfl he.symm (fi inn (by rw[if_neg h,if_neg h6]))
 have c19:∀ g6,e.kind ≠ 0→¬ (e.kind=5∧inn=true)→¬ (e.kind=6∧inn=false)→¬ (e.kind=7∧inn=true)→G (cxOf Tryz.prog Tryz.f8 K8 T8 R) ⟨b0,N,stl,152,[]⟩ [.code (.ref 19),.blk 0,.code (.ref 24)] { F:=[(0,.ptr 0 0),(4,.ptr 1 0),(5,.val (.int .i64 0)),(6,.ptr 2 0)],H:=[.row g 37 (rnV ⟨[r0,r1,r2,r3,r4,r5,r6,r7],pc,inn,n,[s0,s1,s2,s3,s4,s5,s6,s7]⟩ (.slice LA ls.length lc)),.cells g4 39 [.val (.int .i64 0),.val (.int .i64 0),.val (.int .i64 0),.val (.int .u64 0),.val (.int .u64 0)],.cells g6 39 [.val (.int .i64 e.kind),.val (.int .i64 e.next),.val (.int .i64 e.reg),.val (.int .u64 e.value),.val (.int .u64 e.addr)]] }:=by
  intro g6 h0 h5 h6 h7
  (refine Y_go 9 ?_; dsimp only[go_sem,Nat.reduceBEq,reduceAdd,Y_0])
  refine⟨fun h=>?_,fun h=>?_⟩
  ·have h:=eq_of_beq h
   (refine Y_go 600 ?_; dsimp only[go_sem,Nat.reduceBEq,reduceAdd])
   exact fin _ _ 1 _ rfl (by unfold endN; rw[if_neg h0,if_neg h5,if_neg h6,if_neg h7,if_pos h]) (by unfold stepR; rw[if_pos]; unfold endN; rw[if_neg h0,if_neg h5,if_neg h6,if_neg h7,if_pos h]; decide)
  ·have h:=ne_of_beq_false h
   exact fun a W rep=>c18 g6 (by unfold endN; rw[if_neg h0,if_neg h5,if_neg h6,if_neg h7,if_neg h]) a W (rep.lq)
 have c20:∀ g6,e.kind ≠ 0→¬ (e.kind=5∧inn=true)→¬ (e.kind=6∧inn=false)→G (cxOf Tryz.prog Tryz.f8 K8 T8 R) ⟨b0,N,stl,152,[]⟩ [.code (.ref 20),.blk 0,.code (.ref 24)] { F:=[(0,.ptr 0 0),(4,.ptr 1 0),(5,.val (.int .i64 0)),(6,.ptr 2 0)],H:=[.row g 37 (rnV ⟨[r0,r1,r2,r3,r4,r5,r6,r7],pc,inn,n,[s0,s1,s2,s3,s4,s5,s6,s7]⟩ (.slice LA ls.length lc)),.cells g4 39 [.val (.int .i64 0),.val (.int .i64 0),.val (.int .i64 0),.val (.int .u64 0),.val (.int .u64 0)],.cells g6 39 [.val (.int .i64 e.kind),.val (.int .i64 e.next),.val (.int .i64 e.reg),.val (.int .u64 e.value),.val (.int .u64 e.addr)]] }:=by
  intro g6 h0 h5 h6
  (refine Y_go 15 ?_; dsimp only[go_sem,Nat.reduceBEq,reduceAdd,Y_0])
  refine⟨fun h=>⟨inn,rfl,fun hi=>?_,fun hi=>?_⟩,fun h=>?_⟩
  ·have h:=eq_of_beq h
   (refine Y_go 600 ?_; dsimp only[go_sem,Nat.reduceBEq,reduceAdd])
   exact fin _ _ (-4) _ rfl (by unfold endN; rw[if_neg h0,if_neg h5,if_neg h6,if_pos ⟨h,hi⟩]) (by unfold stepR; rw[if_pos]; unfold endN; rw[if_neg h0,if_neg h5,if_neg h6,if_pos ⟨h,hi⟩]; decide)
  ·exact fun a W rep=>c19 g6 h0 h5 h6 (fun k=>by rw[hi] at k; cases k.2) a W (rep.lq)
  ·exact fun a W rep=>c19 g6 h0 h5 h6 (fun k=>ne_of_beq_false h k.1) a W (rep.lq)
 have c21:∀ g6,e.kind ≠ 0→¬ (e.kind=5∧inn=true)→G (cxOf Tryz.prog Tryz.f8 K8 T8 R) ⟨b0,N,stl,152,[]⟩ [.code (.ref 21),.blk 0,.code (.ref 24)] { F:=[(0,.ptr 0 0),(4,.ptr 1 0),(5,.val (.int .i64 0)),(6,.ptr 2 0)],H:=[.row g 37 (rnV ⟨[r0,r1,r2,r3,r4,r5,r6,r7],pc,inn,n,[s0,s1,s2,s3,s4,s5,s6,s7]⟩ (.slice LA ls.length lc)),.cells g4 39 [.val (.int .i64 0),.val (.int .i64 0),.val (.int .i64 0),.val (.int .u64 0),.val (.int .u64 0)],.cells g6 39 [.val (.int .i64 e.kind),.val (.int .i64 e.next),.val (.int .i64 e.reg),.val (.int .u64 e.value),.val (.int .u64 e.addr)]] }:=by
  intro g6 h0 h5
  (refine Y_go 16 ?_; dsimp only[go_sem,Nat.reduceBEq,reduceAdd,Y_0])
  refine⟨fun h=>⟨inn,rfl,fun hi=>?_,fun hi=>?_⟩,fun h=>?_⟩
  ·have h:=eq_of_beq h
   have hi:inn=false:=by simpa using hi
   (refine Y_go 600 ?_; dsimp only[go_sem,Nat.reduceBEq,reduceAdd])
   exact fin _ _ (-2) _ rfl (by unfold endN; rw[if_neg h0,if_neg h5,if_pos ⟨h,hi⟩]) (by unfold stepR; rw[if_pos]; unfold endN; rw[if_neg h0,if_neg h5,if_pos ⟨h,hi⟩]; decide)
  ·have hi:inn=true:=by simpa using hi
   exact fun a W rep=>c20 g6 h0 h5 (fun k=>by rw[hi] at k; cases k.2) a W (rep.lq)
  ·exact fun a W rep=>c20 g6 h0 h5 (fun k=>ne_of_beq_false h k.1) a W (rep.lq)
 have c22:∀ g6,e.kind ≠ 0→G (cxOf Tryz.prog Tryz.f8 K8 T8 R) ⟨b0,N,stl,152,[]⟩ [.code (.ref 22),.blk 0,.code (.ref 24)] { F:=[(0,.ptr 0 0),(4,.ptr 1 0),(5,.val (.int .i64 0)),(6,.ptr 2 0)],H:=[.row g 37 (rnV ⟨[r0,r1,r2,r3,r4,r5,r6,r7],pc,inn,n,[s0,s1,s2,s3,s4,s5,s6,s7]⟩ (.slice LA ls.length lc)),.cells g4 39 [.val (.int .i64 0),.val (.int .i64 0),.val (.int .i64 0),.val (.int .u64 0),.val (.int .u64 0)],.cells g6 39 [.val (.int .i64 e.kind),.val (.int .i64 e.next),.val (.int .i64 e.reg),.val (.int .u64 e.value),.val (.int .u64 e.addr)]] }:=by
  intro g6 h0
  (refine Y_go 15 ?_; dsimp only[go_sem,Nat.reduceBEq,reduceAdd,Y_0])
  refine⟨fun h=>⟨inn,rfl,fun hi=>?_,fun hi=>?_⟩,fun h=>?_⟩
  ·have h:=eq_of_beq h
   (refine Y_go 600 ?_; dsimp only[go_sem,Nat.reduceBEq,reduceAdd])
   exact fin _ _ (-3) _ rfl (by unfold endN; rw[if_neg h0,if_pos ⟨h,hi⟩]) (by unfold stepR; rw[if_pos]; unfold endN; rw[if_neg h0,if_pos ⟨h,hi⟩]; decide)
  ·exact fun a W rep=>c21 g6 h0 (fun k=>by rw[hi] at k; cases k.2) a W (rep.lq)
  ·exact fun a W rep=>c21 g6 h0 (fun k=>ne_of_beq_false h k.1) a W (rep.lq)
 have cont:∀ g6,G (cxOf Tryz.prog Tryz.f8 K8 T8 R) ⟨b0,N,stl,152,[]⟩ [.code (.ref 25)] { F:=[(0,.ptr 0 0),(4,.ptr 1 0),(5,.val (.int .i64 0)),(6,.ptr 2 0)],H:=[.row g 37 (rnV ⟨[r0,r1,r2,r3,r4,r5,r6,r7],pc,inn,n,[s0,s1,s2,s3,s4,s5,s6,s7]⟩ (.slice LA ls.length lc)),.cells g4 39 [.val (.int .i64 0),.val (.int .i64 0),.val (.int .i64 0),.val (.int .u64 0),.val (.int .u64 0)],.cells g6 39 [.val (.int .i64 e.kind),.val (.int .i64 e.next),.val (.int .i64 e.reg),.val (.int .u64 e.value),.val (.int .u64 e.addr)]] }:=by
  intro g6
  (refine Y_go 11 ?_; dsimp only[go_sem,Nat.reduceBEq,reduceAdd,Y_0])
  refine⟨fun h=>?_,fun h=>?_⟩
  ·have h:=eq_of_beq h
   (refine Y_go 600 ?_; dsimp only[go_sem,Nat.reduceBEq,reduceAdd])
   exact fin _ _ (-1) _ rfl (by unfold endN; rw[if_pos h]) (by unfold stepR; rw[if_pos]; unfold endN; rw[if_pos h]; decide)
  ·have h:=ne_of_beq_false h
   exact fun a W rep=>c22 g6 h a W (rep.lq)
 refine⟨_,rfl,⟨hp,(by omega:pc < l.length),sB⟩,_,cl 0 _ (by omega) rfl,_,cl 1 _ (by omega) rfl,_,cl 2 _ (by omega) rfl,_,cl 3 _ (by omega) rfl,_,cl 4 _ (by omega) rfl,_,rfl,_,rfl,_,rfl,_,rfl,_,rfl,_,rfl,_,rfl,_,rfl,_,rfl,?_,fun g6=>?_⟩
 ·refine zj1s (vs:=[In.val x,.agg #[.int .u64 r0,.int .u64 r1,.int .u64 r2,.int .u64 r3,.int .u64 r4,.int .u64 r5,.int .u64 r6,.int .u64 r7],.int .i64 pc]) rfl (fun W hW=>hdo W (RowE.at hG (HeapOk.env (E:=⟨b0,N,stl,152,[]⟩) (E':=⟨b0,N,stl,nt0,mk0⟩) rfl rfl rfl hW))) fun v hv=>⟨.agg [.val (.int .i64 e.kind),.val (.int .i64 e.next),.val (.int .i64 e.reg),.val (.int .u64 e.value),.val (.int .u64 e.addr)],by rw[hv]; exact Ef.is _ e,?_⟩
  (refine gt_y rfl hQ 0 ?_; dsimp only[go_sem,YT_k,YT_done,Nat.reduceBEq,Y_0,reduceAdd])
  exact fun g6 a W rep=>cont g6 a W (rep.lq)
 ·refine zj1s (vs:=[In.val x,.agg #[.int .u64 r0,.int .u64 r1,.int .u64 r2,.int .u64 r3,.int .u64 r4,.int .u64 r5,.int .u64 r6,.int .u64 r7],.int .i64 pc]) rfl (fun W hW=>hdo W (RowE.at hG (HeapOk.env (E:=⟨b0,N,stl,152,[]⟩) (E':=⟨b0,N,stl,nt0,mk0⟩) rfl rfl rfl hW))) fun v hv=>⟨.agg [.val (.int .i64 e.kind),.val (.int .i64 e.next),.val (.int .i64 e.reg),.val (.int .u64 e.value),.val (.int .u64 e.addr)],by rw[hv]; exact Ef.is _ e,?_⟩
  (refine gt_y rfl hQ 0 ?_; dsimp only[go_sem,YT_k,YT_done,Nat.reduceBEq,Y_0,reduceAdd])
  exact fun a W rep=>cont g6 a W (rep.lq)
theorem rn_stGet (s:Rn) (L:Value) (n:Int) (h8:s.rs.length=8) (k8:s.st.length=8) (hn:0≤n∧n < 8):(rnV s L)[12+n.toNat]? = some (.bool (stB s.st n)):=by
 unfold rnV stB
 rw[List.getElem?_append_right (by rw[List.length_map,h8]; omega),List.length_map,h8,List.getElem?_append_right (by simp; omega)]
 simp only[List.length_cons,List.length_nil]
 rw[show 12+n.toNat - 8 - (0+1+1+1+1)=n.toNat by omega,List.getElem?_map,List.getD_eq_getElem?_getD,List.getElem?_eq_getElem (by omega)]
 rfl
theorem asks12 (x:In) (s:Rn) (L:Value) (g:Nat) (w:World) (h8:s.rs.length=8) (k8:s.st.length=8) (hl:legalB x=true) (hS:RowAt w (some ⟨g,0,none⟩) (rnV s L)) :
  CallsV Tryz.prog 12 [.pointer (some ⟨g,0,none⟩),In.val x] w fun v w'=>v=.bool (asksB x s.st)∧Fresh w w':=by
 refine zj05 (keep:=K12) (nt:=63) (svs:=[.adr (some ⟨g,0,none⟩) 0,.agg (In.sv x)]) Tryz.func12 x12 n12 (by simp) (by simp only[IsL]; exact⟨_,_,by simp[Is,Addr.add],⟨_,_,In.is _ x,rfl,rfl⟩,rfl⟩) fun R hR=>?_
 (refine Y_go 600 ?_; dsimp only[go_sem,In.sv,Nat.reduceAdd,Nat.reduceBEq])
 intro g1
 have one:∀ n:Int,(0≤n∧n < 8)→CellAt ⟨w,w.heap.size,[],63,[]⟩ (some ⟨g,0,none⟩) (12+n.toNat*1) (.bool (stB s.st n)):=fun n hn=>hS.cell (by rw[Nat.mul_one]; exact rn_stGet s L n h8 k8 hn)
 have ret:∀ q:Bool,q=asksB x s.st→∀ F H,denAll H F [4]=some [.bool q]→RetG (cxOf Tryz.prog Tryz.f12 K12 T12 R) ⟨w,w.heap.size,[],63,[]⟩ { F:=F,H:=H }:=fun q hq F H hd =>
  zj02 (vs:=[.bool q]) r12 rfl hd fun W hW=>hR _ _ ⟨by rw[hq]; rfl,hW.fresh'⟩
 have lr:=zj49 hl
 refine⟨fun h=>?_,fun h=>?_⟩
 ·have ho:x.op=3:=eq_of_beq h
  have e:asksB x s.st=!stB s.st x.b:=by unfold asksB; rw[if_pos (by omega)]
  have hb:=zj04 (lr.2.1 (by rw[ho]; decide))
  exact⟨rfl,rfl,⟨hb.1,hb.2,rfl⟩,_,one _ hb,fun h=>ret true (by rw[e,h]) _ _ rfl,fun h=>ret false (by rw[e,h]) _ _ rfl⟩
 have n3:x.op ≠ 3:=ne_of_beq_false h
 refine⟨fun h=>?_,fun h=>?_⟩
 ·have ho:x.op=11:=eq_of_beq h
  have e:asksB x s.st=!stB s.st x.b:=by unfold asksB; rw[if_pos (by omega)]
  have hb:=zj04 (lr.2.1 (by rw[ho]; decide))
  exact⟨rfl,rfl,⟨hb.1,hb.2,rfl⟩,_,one _ hb,fun h=>ret true (by rw[e,h]) _ _ rfl,fun h=>ret false (by rw[e,h]) _ _ rfl⟩
 have n11:x.op ≠ 11:=ne_of_beq_false h
 refine⟨fun h=>?_,fun h=>?_⟩
 ·have ho:x.op=4:=eq_of_beq h
  have e:asksB x s.st=(!stB s.st x.b || !stB s.st x.c):=by unfold asksB; rw[if_neg (by omega),if_pos (by omega)]
  have hb:=zj04 (lr.2.1 (by rw[ho]; decide))
  have hc:=zj04 (lr.2.2 (by rw[ho]; decide))
  exact⟨rfl,rfl,⟨hb.1,hb.2,rfl⟩,_,one _ hb,fun h=>ret true (by rw[e,h]; rfl) _ _ rfl,fun h=>⟨rfl,rfl,⟨hc.1,hc.2,rfl⟩,_,one _ hc,ret _ (by rw[e,h]; rfl) _ _ rfl⟩⟩
 have n4:x.op ≠ 4:=ne_of_beq_false h
 refine⟨fun h=>?_,fun h=>?_⟩
 ·have ho:x.op=5:=eq_of_beq h
  have e:asksB x s.st=(!stB s.st x.b || !stB s.st x.c):=by unfold asksB; rw[if_neg (by omega),if_pos (by omega)]
  have hb:=zj04 (lr.2.1 (by rw[ho]; decide))
  have hc:=zj04 (lr.2.2 (by rw[ho]; decide))
  exact⟨rfl,rfl,⟨hb.1,hb.2,rfl⟩,_,one _ hb,fun h=>ret true (by rw[e,h]; rfl) _ _ rfl,fun h=>⟨rfl,rfl,⟨hc.1,hc.2,rfl⟩,_,one _ hc,ret _ (by rw[e,h]; rfl) _ _ rfl⟩⟩
 have n5:x.op ≠ 5:=ne_of_beq_false h
 refine⟨fun h=>?_,fun h=>?_⟩
 ·have ho:x.op=6:=eq_of_beq h
  have e:asksB x s.st=(!stB s.st x.b || !stB s.st x.c):=by unfold asksB; rw[if_neg (by omega),if_pos (by omega)]
  have hb:=zj04 (lr.2.1 (by rw[ho]; decide))
  have hc:=zj04 (lr.2.2 (by rw[ho]; decide))
  exact⟨rfl,rfl,⟨hb.1,hb.2,rfl⟩,_,one _ hb,fun h=>ret true (by rw[e,h]; rfl) _ _ rfl,fun h=>⟨rfl,rfl,⟨hc.1,hc.2,rfl⟩,_,one _ hc,ret _ (by rw[e,h]; rfl) _ _ rfl⟩⟩
 have n6:x.op ≠ 6:=ne_of_beq_false h
 refine⟨fun h=>?_,fun h=>?_⟩
 ·have ho:x.op=7:=eq_of_beq h
  have e:asksB x s.st=(!stB s.st x.b || !stB s.st x.c):=by unfold asksB; rw[if_neg (by omega),if_pos (by omega)]
  have hb:=zj04 (lr.2.1 (by rw[ho]; decide))
  have hc:=zj04 (lr.2.2 (by rw[ho]; decide))
  exact⟨rfl,rfl,⟨hb.1,hb.2,rfl⟩,_,one _ hb,fun h=>ret true (by rw[e,h]; rfl) _ _ rfl,fun h=>⟨rfl,rfl,⟨hc.1,hc.2,rfl⟩,_,one _ hc,ret _ (by rw[e,h]; rfl) _ _ rfl⟩⟩
 have n7:x.op ≠ 7:=ne_of_beq_false h
 refine⟨fun h=>?_,fun h=>?_⟩
 ·have ho:x.op=8:=eq_of_beq h
  have e:asksB x s.st=(!stB s.st x.b || !stB s.st x.c):=by unfold asksB; rw[if_neg (by omega),if_pos (by omega)]
  have hb:=zj04 (lr.2.1 (by rw[ho]; decide))
  have hc:=zj04 (lr.2.2 (by rw[ho]; decide))
  exact⟨rfl,rfl,⟨hb.1,hb.2,rfl⟩,_,one _ hb,fun h=>ret true (by rw[e,h]; rfl) _ _ rfl,fun h=>⟨rfl,rfl,⟨hc.1,hc.2,rfl⟩,_,one _ hc,ret _ (by rw[e,h]; rfl) _ _ rfl⟩⟩
 have n8:x.op ≠ 8:=ne_of_beq_false h
 refine⟨fun h=>?_,fun h=>?_⟩
 ·have ho:x.op=9:=eq_of_beq h
  have e:asksB x s.st=(!stB s.st x.b || !stB s.st x.c):=by unfold asksB; rw[if_neg (by omega),if_pos (by omega)]
  have hb:=zj04 (lr.2.1 (by rw[ho]; decide))
  have hc:=zj04 (lr.2.2 (by rw[ho]; decide))
  exact⟨rfl,rfl,⟨hb.1,hb.2,rfl⟩,_,one _ hb,fun h=>ret true (by rw[e,h]; rfl) _ _ rfl,fun h=>⟨rfl,rfl,⟨hc.1,hc.2,rfl⟩,_,one _ hc,ret _ (by rw[e,h]; rfl) _ _ rfl⟩⟩
 have n9:x.op ≠ 9:=ne_of_beq_false h
 refine⟨fun h=>?_,fun h=>?_⟩
 ·have ho:x.op=10:=eq_of_beq h
  have e:asksB x s.st=(!stB s.st x.b || !stB s.st x.c):=by unfold asksB; rw[if_neg (by omega),if_pos (by omega)]
  have hb:=zj04 (lr.2.1 (by rw[ho]; decide))
  have hc:=zj04 (lr.2.2 (by rw[ho]; decide))
  exact⟨rfl,rfl,⟨hb.1,hb.2,rfl⟩,_,one _ hb,fun h=>ret true (by rw[e,h]; rfl) _ _ rfl,fun h=>⟨rfl,rfl,⟨hc.1,hc.2,rfl⟩,_,one _ hc,ret _ (by rw[e,h]; rfl) _ _ rfl⟩⟩
 have n10:x.op ≠ 10:=ne_of_beq_false h
 refine⟨fun h=>?_,fun h=>?_⟩
 ·have ho:x.op=12:=eq_of_beq h
  have e:asksB x s.st=(!stB s.st x.a || !stB s.st x.b):=by unfold asksB; rw[if_neg (by omega),if_neg (by omega),if_pos (by omega)]
  have ha:=zj04 (lr.1 (by rw[ho]; decide))
  have hb:=zj04 (lr.2.1 (by rw[ho]; decide))
  exact⟨rfl,rfl,⟨ha.1,ha.2,rfl⟩,_,one _ ha,fun h=>ret true (by rw[e,h]; rfl) _ _ rfl,fun h=>⟨rfl,rfl,⟨hb.1,hb.2,rfl⟩,_,one _ hb,fun h2=>ret true (by rw[e,h,h2]; rfl) _ _ rfl,fun h2=>ret false (by rw[e,h,h2]; rfl) _ _ rfl⟩⟩
 have n12:x.op ≠ 12:=ne_of_beq_false h
 refine⟨fun h=>?_,fun h=>?_⟩
 ·have ho:x.op=14:=eq_of_beq h
  have e:asksB x s.st=(!stB s.st x.a || !stB s.st x.b):=by unfold asksB; rw[if_neg (by omega),if_neg (by omega),if_pos (by omega)]
  have ha:=zj04 (lr.1 (by rw[ho]; decide))
  have hb:=zj04 (lr.2.1 (by rw[ho]; decide))
  exact⟨rfl,rfl,⟨ha.1,ha.2,rfl⟩,_,one _ ha,fun h=>ret true (by rw[e,h]; rfl) _ _ rfl,fun h=>⟨rfl,rfl,⟨hb.1,hb.2,rfl⟩,_,one _ hb,fun h2=>ret true (by rw[e,h,h2]; rfl) _ _ rfl,fun h2=>ret false (by rw[e,h,h2]; rfl) _ _ rfl⟩⟩
 have n14:x.op ≠ 14:=ne_of_beq_false h
 refine⟨fun h=>?_,fun h=>?_⟩
 ·have ho:x.op=15:=eq_of_beq h
  have e:asksB x s.st=(!stB s.st x.a || !stB s.st x.b):=by unfold asksB; rw[if_neg (by omega),if_neg (by omega),if_pos (by omega)]
  have ha:=zj04 (lr.1 (by rw[ho]; decide))
  have hb:=zj04 (lr.2.1 (by rw[ho]; decide))
  exact⟨rfl,rfl,⟨ha.1,ha.2,rfl⟩,_,one _ ha,fun h=>ret true (by rw[e,h]; rfl) _ _ rfl,fun h=>⟨rfl,rfl,⟨hb.1,hb.2,rfl⟩,_,one _ hb,fun h2=>ret true (by rw[e,h,h2]; rfl) _ _ rfl,fun h2=>ret false (by rw[e,h,h2]; rfl) _ _ rfl⟩⟩
 have n15:x.op ≠ 15:=ne_of_beq_false h
 refine⟨fun h=>?_,fun h=>?_⟩
 ·have ho:x.op=16:=eq_of_beq h
  have e:asksB x s.st=(!stB s.st x.a || !stB s.st x.b):=by unfold asksB; rw[if_neg (by omega),if_neg (by omega),if_pos (by omega)]
  have ha:=zj04 (lr.1 (by rw[ho]; decide))
  have hb:=zj04 (lr.2.1 (by rw[ho]; decide))
  exact⟨rfl,rfl,⟨ha.1,ha.2,rfl⟩,_,one _ ha,fun h=>ret true (by rw[e,h]; rfl) _ _ rfl,fun h=>⟨rfl,rfl,⟨hb.1,hb.2,rfl⟩,_,one _ hb,fun h2=>ret true (by rw[e,h,h2]; rfl) _ _ rfl,fun h2=>ret false (by rw[e,h,h2]; rfl) _ _ rfl⟩⟩
 have n16:x.op ≠ 16:=ne_of_beq_false h
 exact ret false (by unfold asksB; rw[if_neg (by omega),if_neg (by omega),if_neg (by omega)]) _ _ rfl
def hasF (fs:List (Int × Int)) (p:Int) (cs:List Int):Bool:=fs.any fun f=>cs.any fun c=>f.1 == c && f.2 == p
def nV (l:List Int):List Value:=l.map fun n=>Value.int .i64 n
theorem has9 (fs:List (Int × Int)) (A:Option Addr) (c:Nat) (p:Int) (cs:List Int) (D:Option Addr) (d:Nat) (w:World) (hfl:fs.length≤maxLen) (hcl:cs.length≤1000) (hA:RowAt w A (fsV fs)) (hD:RowAt w D (nV cs)) :
  CallsV Tryz.prog 9 [.slice A fs.length c,.int .i64 p,.slice D cs.length d] w fun v w'=>v=.bool (hasF fs p cs)∧Fresh w w':=by
 refine zj05 (keep:=K9) (nt:=32) (svs:=[.val (.slice A fs.length c),.val (.int .i64 p),.val (.slice D cs.length d)]) Tryz.func9 x9 n9 (by simp) (by simp[IsL,Is]) fun R hR=>?_
 simp only[maxLen] at hfl
 have ret:∀ q:Bool,q=hasF fs p cs→∀ F H,denAll H F [6]=some [.bool q]→RetG (cxOf Tryz.prog Tryz.f9 K9 T9 R) ⟨w,w.heap.size,[],32,[]⟩ { F:=F,H:=H }:=fun q hq F H hd =>
  zj02 (vs:=[.bool q]) r9 rfl hd fun W hW=>hR _ _ ⟨by rw[hq]; rfl,hW.fresh'⟩
 (refine Y_go 600 ?_; dsimp only[go_sem,Nat.reduceAdd,Nat.reduceBEq])
 refine zj0j (α:=Nat) (fun i=>i≤fs.length∧hasF (fs.take i) p cs=false) (fun _=>⟨w,w.heap.size,[],32,[]⟩) (fun i=>{ F:=[(0,.val (.slice A fs.length c)),(1,.val (.int .i64 p)),(2,.val (.slice D cs.length d)),(10,.val (.int .i64 (fs.length:Int))),(11,.val (.int .i64 (i:Int)))],H:=[] }) (fun i=>fs.length - i) (fun _=>rfl) ?start ?round
 case start =>
  intro a W rep
  exact⟨0,⟨Nat.zero_le _,by simp[hasF]⟩,rep.lq⟩
 case round =>
  rintro i ⟨hi,ha⟩ I again
  have hi1:((i:Nat):Int).toNat=i:=by omega
  (refine Y_go 600 ?_; dsimp only[go_sem,Nat.reduceBEq])
  refine⟨fun hlt=>?_,fun hge=>?_⟩
  ·have hlt:i < fs.length:=by have:=of_decide_eq_true hlt; omega
   have hz:fs[i]? = some fs[i]:=List.getElem?_eq_getElem hlt
   generalize fs[i]=r at hz
   have sA:=hA.isSome (j:=i*2) (by rw[zj2i]; omega)
   obtain⟨c0,c1⟩:=zj4z fs i r hz
   have hst:hasF (fs.take (i+1)) p cs=cs.any fun c=>r.1 == c && r.2 == p:=by
    unfold hasF at *
    rw[List.take_add_one,hz,List.any_append,ha]; simp
   have hall:hasF (fs.take (i+1)) p cs=true→hasF fs p cs=true:=fun h=>by
    unfold hasF at *
    rw[← List.take_append_drop (i+1) fs,List.any_append,h,Bool.true_or]
   refine zj0j (α:=Nat) (fun k=>k≤cs.length∧((cs.take k).any fun c=>r.1 == c && r.2 == p)=false) (fun _=>⟨w,w.heap.size,[],32,[]⟩) (fun k=>{ F:=[(0,.val (.slice A fs.length c)),(1,.val (.int .i64 p)),(2,.val (.slice D cs.length d)),(7,.val (.int .i64 (i:Int))),(10,.val (.int .i64 (fs.length:Int))),(11,.val (.int .i64 (i:Int))),(15,.val (.int .i64 (cs.length:Int))),(16,.val (.int .i64 (k:Int)))],H:=[] }) (fun k=>cs.length - k) (fun _=>rfl) ?start2 ?round2
   case start2 =>
    intro a W rep
    exact⟨0,⟨Nat.zero_le _,by simp⟩,rep.lq⟩
   case round2 =>
    rintro k ⟨hk,hb⟩ I2 again2
    have hk1:((k:Nat):Int).toNat=k:=by omega
    (refine Y_go 600 ?_; dsimp only[go_sem,Nat.reduceBEq])
    refine⟨fun hlt2=>?_,fun hge2=>?_⟩
    ·have hlt2:k < cs.length:=by have:=of_decide_eq_true hlt2; omega
     have hy:cs[k]? = some cs[k]:=List.getElem?_eq_getElem hlt2
     generalize cs[k]=y at hy
     have hyc:(nV cs)[k]? = some (.int .i64 y):=by unfold nV; rw[List.getElem?_map,hy]; rfl
     have sD:=hD.isSome (j:=k) (by unfold nV; rw[List.length_map]; exact hlt2)
     rw[hi1,hk1]
     have hst2:((cs.take (k+1)).any fun c=>r.1 == c && r.2 == p)=(r.1 == y && r.2 == p):=by
      rw[List.take_add_one,hy,List.any_append,hb]; simp
     have hall2:((cs.take (k+1)).any fun c=>r.1 == c && r.2 == p)=true→(cs.any fun c=>r.1 == c && r.2 == p)=true:=fun h=>by
      rw[← List.take_append_drop (k+1) cs,List.any_append,h,Bool.true_or]
     refine⟨⟨by omega,by omega,sA⟩,r.1,hA.cell c0,r.2,hA.cell c1,⟨by omega,by omega,sD⟩,y,hD.cell (by rw[Nat.mul_one]; exact hyc),fun h=>?_,fun h=>?_⟩
     ·refine ret true ?_ _ _ rfl
      rw[hall (by rw[hst]; exact hall2 (by rw[hst2]; simpa using h))]
     ·exact⟨((k+1:Nat):Int),ArOk.to (by omega) (by omega) (by omega),zj01 fun a W rep=>again2 (k+1) ⟨by omega,by rw[hst2]; simpa using h⟩ (by show _ - (k+1) < _ - k; omega) a W (rep.lq)⟩
    ·have hke:k=cs.length:=by have:=of_decide_eq_false hge2; omega
     subst hke
     rw[List.take_length] at hb
     exact⟨((i+1:Nat):Int),ArOk.to (by omega) (by omega) (by omega),zj01 fun a W rep=>again (i+1) ⟨by omega,by rw[hst]; exact hb⟩ (by show _ - (i+1) < _ - i; omega) a W (rep.lq)⟩
  ·have hie:i=fs.length:=by have:=of_decide_eq_false hge; omega
   subst hie
   rw[List.take_length] at ha
   exact ret false ha.symm _ _ rfl
open Go.Asm
theorem rn_get (s:Rn) (L:Value) (i:Nat) (v:Value) (h8:s.rs.length=8) (hi:([.int .i64 s.pc,.bool s.inn,L,.int .i64 s.n]:List Value)[i]? = some v):(rnV s L)[8+i]? = some v:=by
 have hl:=(List.getElem?_eq_some_iff.1 hi).1
 unfold rnV
 rw[List.getElem?_append_right (by rw[List.length_map,h8]; omega),List.length_map,h8,show 8+i - 8=i by omega,List.getElem?_append_left hl]
 exact hi
def rn0 (rs:List Int):Rn:=⟨rs,0,false,0,[false,false,false,false,false,false,false,false]⟩
theorem rn0_ok (l:List In) (rs:List Int) (hr:rs.length=8) (hU:∀ v ∈ rs,isU v):RnOk l (rn0 rs) :=
 ⟨hr,rfl,hU,Int.le_refl 0,Int.le_refl 0,by show (0:Int)≤1024; decide,.start,fun _ _=>.start⟩
theorem ldV_isU {ls:List Int} (h:∀ v ∈ ls,isU v) (n:Int):isU (ldV ls n):=by
 unfold ldV
 split
 ·unfold isU; omega
 ·rw[List.getD_eq_getElem?_getD]
  cases hk:ls[(n % ls.length).toNat]? with
  | none=>simp[isU]
  | some v=>exact h v (List.mem_of_getElem? hk)
theorem step_n (e:Ef) (ld:Int) (s:Rn):(stepR e ld s).n≤s.n+1:=by
 unfold stepR
 split
 ·omega
 ·dsimp only; split <;> omega
theorem zj1o {fs:List (Int × Int)} {p:Int} {cs:List Int}:hasF fs p cs=true ↔ ∃ c ∈ cs,(c,p) ∈ fs:=by
 unfold hasF
 simp only[List.any_eq_true,Bool.and_eq_true,beq_iff_eq]
 constructor
 ·rintro ⟨f,hf,c,hc,h1,h2⟩
  exact⟨c,hc,by rw[← h1,← h2]; exact hf⟩
 ·rintro ⟨c,hc,h⟩
  exact⟨(c,p),h,c,hc,rfl,rfl⟩
theorem zj3j {l:List In} {fs:List (Int × Int)} (hf:FoundOk l fs) {c p:Int} (h1:1≤c) (h6:c≤6) (hb:BadP l c p):clnB fs=false:=by
 unfold clnB
 rw[List.all_eq_false]
 exact⟨(c,p),(hf.mem c p).2 hb,by simp[h1,h6]⟩
theorem not8 {l:List In} {s:Rn} (h:RnOk l s):¬ BadP l 8 s.pc:=by
 rintro (⟨t,x,_,_,_,hk⟩ | ⟨hk,_⟩ | ⟨_,_,_,h2,h3⟩)
 ·rcases hk with⟨hk,_⟩ | ⟨_,hk | ⟨hk,_⟩⟩
  ·omega
  ·unfold fnd at hk
   repeat' split at hk
   all_goals simp at hk
  ·omega
 ·omega
 ·have:=h.reach
  cases hi:s.inn
  ·rw[hi] at this; exact h2 this
  ·rw[hi] at this; exact h3 this
theorem end_bad {l:List In} {s:Rn} {x:In} (h:RnOk l s) (hx:l[s.pc.toNat]? = some x) (hl:l.length≤1024) :
  (endN (doB x s.rs s.pc) s.inn = -1→BadP l 1 s.pc∨BadP l 6 s.pc)∧(∀ k:Int,2≤k→k≤4→endN (doB x s.rs s.pc) s.inn = -k→BadP l k s.pc):=by
 have hp:s.pc < 1024:=by have:=(List.getElem?_eq_some_iff.1 hx).1; have:=h.p0; omega
 obtain⟨e1,e2,e3,e4⟩:=do_ends (x:=x) (r:=s.rs) (p:=s.pc) (inn:=s.inn) h.p0 hp
 have bad:∀ c,legalB x=true→c ∈ fnd x (s.pc,s.inn)→BadP l c s.pc:=fun c hl hc=>.inl ⟨(s.pc,s.inn),x,h.reach,rfl,hx,.inr ⟨hl,.inl hc⟩⟩
 refine⟨fun he=>?_,fun k h2 h4 he=>?_⟩
 ·rcases e1 he with hk | ⟨hk,hc⟩
  ·exact .inl (.inl ⟨(s.pc,s.inn),x,h.reach,rfl,hx,.inl ⟨rfl,hk⟩⟩)
  ·exact .inr (bad 6 hk hc)
 ·have hc:k=2∨k=3∨k=4:=by omega
  rcases hc with rfl | rfl | rfl
  ·exact bad 2 (e2 he).1 (e2 he).2
  ·exact bad 3 (e3 he).1 (e3 he).2
  ·exact bad 4 (e4 he).1 (e4 he).2
theorem out_bad {l:List In} {s:Rn} {x:In} {ld:Int} (h:RnOk l s) (hx:l[s.pc.toNat]? = some x) (hl:l.length≤1024) (he:endN (doB x s.rs s.pc) s.inn=0) :
  (stepR (doB x s.rs s.pc) ld s).inn=true→(l.length:Int)≤(stepR (doB x s.rs s.pc) ld s).pc→BadP l 5 s.pc:=by
 have hp:s.pc < 1024:=by have:=(List.getElem?_eq_some_iff.1 hx).1; have:=h.p0; omega
 have hlg:legalB x=true:=by
  cases hk:legalB x with
  | true=>rfl
  | false =>
   have:doB x s.rs s.pc=Ef.zero:=by unfold doB; rw[if_neg (by simp[hk])]
   rw[this] at he; simp[endN,Ef.zero] at he
 have hn:=do_nxt hlg h.p0 hp he
 unfold stepR
 rw[if_neg (fun k=>k he)]
 intro h1 h2
 exact .inl ⟨(s.pc,s.inn),x,h.reach,rfl,hx,.inr ⟨hlg,.inr ⟨rfl,_,hn,h1,h2⟩⟩⟩
theorem asks_bad {l:List In} {s:Rn} {x:In} (h:RnOk l s) (hx:l[s.pc.toNat]? = some x) (hl:legalB x=true) (ha:asksB x s.st=true):BadP l 7 s.pc:=by
 obtain⟨r,h1,h2,h3⟩:=asks_unset h hl ha
 exact .inr (.inl ⟨rfl,x,h.p0,hx,hl,r,s.inn,h1,h2,h3⟩)
def ops13:List XS:=match T4n13 with
 | .seq (.ops (_ :: _ :: l)) _=>l
 | _=>[]
theorem law4 (l:List In) (B:Option Addr) (bc:Nat) (rs ls:List Int) (LA:Option Addr) (lc:Nat) (w:World) (hB:RowAt w B (cellsI l)) (hr:rs.length=8) (hU:∀ v ∈ rs,isU v) (hL:RowAt w LA (ls.map uV)) (hLU:∀ v ∈ ls,isU v) (hG:ShAt w) (hN:NmAt w) (hT:TabAt w) (hLb:LibAt w) :
  CallsV Tryz.prog 4 [.slice B l.length bc,.agg (rs.map uV).toArray,.slice LA ls.length lc] w fun v w'=>Fresh w w'∧v=.bool true:=by
 obtain⟨r0,r1,r2,r3,r4,r5,r6,r7,rfl⟩:=list8 hr
 refine zj05 (keep:=K4) (nt:=147) (svs:=[.val (.slice B l.length bc),.agg [.val (uV r0),.val (uV r1),.val (uV r2),.val (uV r3),.val (uV r4),.val (uV r5),.val (uV r6),.val (uV r7)],.val (.slice LA ls.length lc)]) Tryz.func4 x4 n4 (by simp) (by simp[IsL,Is,uV]) fun R hR=>?_
 (refine Y_go 600 ?_; dsimp only[go_sem,uV,reduceAdd,Nat.reduceBEq])
 intro g4
 refine zj00 (vs:=[]) rfl (fun W hW=>alive20 W (hG.keep hW.fresh') (hN.keep hW.fresh') (hT.keep hW.fresh') (hLb.keep hW.fresh')) fun v hv=>⟨.bt,by rw[hv]; simp[Is],?_⟩
 (refine Y_go 600 ?_; dsimp only[go_sem,Nat.reduceBEq])
 have done:∀ F H,denAll H F [6]=some [.bool true]→RetG (cxOf Tryz.prog Tryz.f4 K4 T4 R) ⟨w,w.heap.size,[],147,[]⟩ { F:=F,H:=H }:=fun F H hd =>
  zj02 (vs:=[.bool true]) Go.Proofs.YtgghmmjoplddbaaGreatDoor.r4 rfl hd fun W hW=>hR _ _ ⟨hW.fresh',rfl⟩
 refine⟨fun _=>done _ _ rfl,fun h1=>⟨fun _=>done _ _ rfl,fun h2=>?_⟩⟩
 have hl:l.length≤200:=by have:=of_decide_eq_false h1; omega
 have hll:ls.length≤200:=by have:=of_decide_eq_false h2; omega
 refine zj0l (vs:=[.slice B l.length bc]) rfl (R:=fun W v W'=>∃ (A:Option Addr) (c:Nat) (fs:List (Int × Int)),FoundOk l fs∧v=.tuple #[.slice A fs.length c,.int .i64 0]∧World.ownsB W' W.heap.size 33 2 (.slice A fs.length c) fs.length (fsV fs)∧Fresh W W') (fun W hW=>look22F l B bc W (by omega) (hB.keep hW.fresh') (hG.keep hW.fresh')) fun W v W' hW ⟨A,c,fs,hf,hv,ho,hk⟩=>?_
 have hfl:fs.length≤maxLen:=ownsB_max ho
 obtain⟨A',c',e1,e2,e5,_⟩:=hW.gain ho hk
 injection e1 with e3 _ e4
 subst e3; subst e4; subst hv
 refine⟨.tup [.own 1 0,.val (.int .i64 0)],_,?_,e2,e5,?_⟩
 ·simp only[Is,IsL]; exact⟨_,⟨_,_,⟨_,_,_,_,_,_,_,rfl,Nat.le_refl _,⟨_,_,_,rfl⟩,fun _=>rfl⟩,⟨_,_,rfl,rfl,rfl⟩,rfl⟩,rfl⟩
 clear e5 e2 hW ho hk
 (refine Y_go 600 ?_; dsimp only[go_sem,Nat.reduceBEq,reduceAdd])
 refine⟨fun h=>absurd h (by decide),fun _ g10=>?_⟩
 refine zj0j (α:=Rn × Int × Nat) (fun q=>RnOk l q.1∧q.1.n≤q.2.2∧q.2.2≤300∧(q.1.inn=true→(l.length:Int)≤q.1.pc→BadP l 5 q.2.1)) (fun _=>⟨w,w.heap.size,[],147,[]⟩)
  (fun q=>{ F:=[(0,.val (.slice B l.length bc)),(2,.val (.slice LA ls.length lc)),(7,.bt),(8,.own 1 0),(10,.ptr 0 0),(11,.val (.int .i64 q.2.1)),(12,.val (.int .i64 (q.2.2:Int)))],H:=[.row g10 37 (rnV q.1 (.slice LA ls.length lc)),.own 33 0 2 A fs.length c (fsV fs)] }) (fun q=>300 - q.2.2) (fun _=>rfl) ?start ?round
 case start =>
  intro a W rep
  refine⟨(rn0 [r0,r1,r2,r3,r4,r5,r6,r7],0,0),⟨rn0_ok l _ rfl hU,by show (0:Int)≤0; decide,by show 0≤300; decide,fun h=>by cases h⟩,?_⟩
  have h2:=rep.torow 2 (xs:=rnV (rn0 [r0,r1,r2,r3,r4,r5,r6,r7]) (.slice LA ls.length lc)) rfl rfl
  exact (h2.pick [2,1] (by decide)).lp
 case round =>
  rintro ⟨s,last,n⟩ ⟨hok,hn,hn3,hbad⟩ I again
  simp only at hok hn hn3 hbad
  have hLs:∀ {H:List SO} {W:World},HeapOk ⟨w,w.heap.size,[],147,[]⟩ H W→Fresh w W:=fun h=>h.fresh'
  have cnt:n < 300→s.pc < l.length→∀ x,l[s.pc.toNat]? = some x→G (cxOf Tryz.prog Tryz.f4 K4 T4 R) ⟨w,w.heap.size,[],147,[]⟩ [.ops ops13,.code (.ref 12),.blk 1,.code (.ref 17),.lend I,.blk 0,.code (.ref 20)] { F:=[(0,.val (.slice B l.length bc)),(2,.val (.slice LA ls.length lc)),(7,.bt),(8,.own 1 0),(10,.ptr 0 0),(11,.val (.int .i64 last)),(12,.val (.int .i64 (n:Int))),(13,.val (.int .i64 s.pc)),(104,.ptr 0 0),(105,.val (.slice B l.length bc))],H:=[.row g10 37 (rnV s (.slice LA ls.length lc)),.own 33 0 2 A fs.length c (fsV fs)] }:=by
   intro hn300 hpl x hx
   have hld:=ldV_isU hLU s.n
   have hend:=end_bad hok hx (by omega)
   have hout:=fun he=>out_bad (ld:=ldV ls s.n) hok hx (by omega) he
   have hstep:=fun he=>hok.step (ld:=ldV ls s.n) (by omega) hx hld he
   have hsn:=step_n (doB x s.rs s.pc) (ldV ls s.n) s
   have hp0:=hok.p0
   have hn0:=hok.n0
   refine call_lent [.row g10 37 (rnV s (.slice LA ls.length lc))] [.own 33 0 2 A fs.length c (fsV fs)] (vs:=[.pointer (some ⟨g10,0,none⟩),.slice B l.length bc]) (fun v H1'=>v=.tuple #[Ef.val (doB x s.rs s.pc),.int .i64 (endN (doB x s.rs s.pc) s.inn)]∧H1'=[.row g10 37 (rnV (stepR (doB x s.rs s.pc) (ldV ls s.n) s) (.slice LA ls.length lc))]) rfl rfl (fun W hW hW1=>?_) ?_
   ·obtain⟨_,ov⟩:=hW.rebase 147 []
    have toE:∀ (A:Option Addr) (xs:List Value),RowAt w A xs→RowE ⟨W,W.heap.size,fps [SO.row g10 37 (rnV s (.slice LA ls.length lc))],0,[]⟩ A xs:=fun A xs h=>(RowAt.toE (st:=[]) h (by simp) 147 []).over (over_less 0 [] ov (by intro j hj; show _ ∈ fps _; simp only[fps,List.flatMap_append]; exact List.mem_append_left _ hj))
    refine (next8 (E0:=⟨W,W.heap.size,_,0,[]⟩) l B bc s ls LA lc g10 x hok.r8 hok.s8 hok.u hn0 (by omega) hp0 (by omega) hx (by omega) (toE _ _ hB) (toE _ _ hL) (toE _ _ hG) hW1).mono fun v W' ⟨h1,h2⟩=>⟨_,⟨h1,rfl⟩,?_,rfl,h2⟩
    exact HExt.setBlk (H:=[.row g10 37 (rnV s (.slice LA ls.length lc))]) (i:=0) rfl rfl rfl
   ·rintro v H1' ⟨rfl,rfl⟩
    generalize doB x s.rs s.pc=e at *
    generalize stepR e (ldV ls s.n) s=s' at *
    obtain⟨z,hz⟩:∃ z,endN e s.inn=z:=⟨_,rfl⟩
    rw[hz] at hend hout hstep ⊢
    refine⟨.tup [Ef.sv e,.val (.int .i64 z)],by simp only[Is,IsL]; exact⟨_,⟨_,_,Ef.is _ e,⟨_,_,rfl,rfl,rfl⟩,rfl⟩,rfl⟩,?_⟩
    simp only[putF,List.singleton_append]
    (refine Y_go 600 ?_; dsimp only[go_sem,Ef.sv,Nat.reduceBEq,reduceAdd,Nat.reduceMul])
    intro g15
    refine⟨fun _=>done _ _ rfl,fun n1=>⟨fun h=>?_,fun m1=>⟨fun h=>?_,fun m2=>⟨fun h=>?_,fun m3=>⟨fun h=>?_,fun m4=>?_⟩⟩⟩⟩⟩
    ·have hz1:=eq_of_beq h
     subst hz1
     intro g
     have hh:hasF fs s.pc [1,6]=true:=by
      rcases hend.1 rfl with hb | hb
      ·exact zj1o.2 ⟨1,by simp,(hf.mem _ _).2 hb⟩
      ·exact zj1o.2 ⟨6,by simp,(hf.mem _ _).2 hb⟩
     have hcl:clnB fs=false:=by
      rcases hend.1 rfl with hb | hb
      ·exact zj3j hf (by decide) (by decide) hb
      ·exact zj3j hf (by decide) (by decide) hb
     refine zj00 (vs:=[.slice A fs.length c,.int .i64 s.pc,.slice (some ⟨g,0,none⟩) 2 2]) rfl (fun W hW=>has9 fs A c s.pc [1,6] _ 2 W hfl (by decide) (hW.rowAt (i:=1) rfl) (hW.cellsAt (i:=3) rfl rfl)) fun v hv=>⟨.bt,by rw[hv,hh]; simp[Is],?_⟩
     (refine Y_go 600 ?_; dsimp only[go_sem,Nat.reduceBEq])
     refine zj00 (vs:=[.slice A fs.length c]) rfl (fun W hW=>zj54 fs A c W hfl (hW.rowAt (i:=1) rfl)) fun v hv=>⟨.bf,by rw[hv,hcl]; simp[Is],?_⟩
     (refine Y_go 600 ?_; dsimp only[go_sem,Nat.reduceBEq])
     exact done _ _ rfl
    ·have hz2:=eq_of_beq h
     subst hz2
     refine⟨2,rfl,fun g=>?_⟩
     have hb:=hend.2 2 (by decide) (by decide) rfl
     have hh:hasF fs s.pc [2]=true:=zj1o.2 ⟨2,by simp,(hf.mem _ _).2 hb⟩
     refine zj00 (vs:=[.slice A fs.length c,.int .i64 s.pc,.slice (some ⟨g,0,none⟩) 1 1]) rfl (fun W hW=>has9 fs A c s.pc [2] _ 1 W hfl (by decide) (hW.rowAt (i:=1) rfl) (hW.cellsAt (i:=3) rfl rfl)) fun v hv=>⟨.bt,by rw[hv,hh]; simp[Is],?_⟩
     (refine Y_go 600 ?_; dsimp only[go_sem,Nat.reduceBEq])
     refine zj00 (vs:=[.slice A fs.length c]) rfl (fun W hW=>zj54 fs A c W hfl (hW.rowAt (i:=1) rfl)) fun v hv=>⟨.bf,by rw[hv,zj3j hf (by decide) (by decide) hb]; simp[Is],?_⟩
     (refine Y_go 600 ?_; dsimp only[go_sem,Nat.reduceBEq])
     exact done _ _ rfl
    ·have hz2:=eq_of_beq h
     subst hz2
     refine⟨3,rfl,fun g=>?_⟩
     have hb:=hend.2 3 (by decide) (by decide) rfl
     have hh:hasF fs s.pc [3]=true:=zj1o.2 ⟨3,by simp,(hf.mem _ _).2 hb⟩
     refine zj00 (vs:=[.slice A fs.length c,.int .i64 s.pc,.slice (some ⟨g,0,none⟩) 1 1]) rfl (fun W hW=>has9 fs A c s.pc [3] _ 1 W hfl (by decide) (hW.rowAt (i:=1) rfl) (hW.cellsAt (i:=3) rfl rfl)) fun v hv=>⟨.bt,by rw[hv,hh]; simp[Is],?_⟩
     (refine Y_go 600 ?_; dsimp only[go_sem,Nat.reduceBEq])
     refine zj00 (vs:=[.slice A fs.length c]) rfl (fun W hW=>zj54 fs A c W hfl (hW.rowAt (i:=1) rfl)) fun v hv=>⟨.bf,by rw[hv,zj3j hf (by decide) (by decide) hb]; simp[Is],?_⟩
     (refine Y_go 600 ?_; dsimp only[go_sem,Nat.reduceBEq])
     exact done _ _ rfl
    ·have hz2:=eq_of_beq h
     subst hz2
     refine⟨4,rfl,fun g=>?_⟩
     have hb:=hend.2 4 (by decide) (by decide) rfl
     have hh:hasF fs s.pc [4]=true:=zj1o.2 ⟨4,by simp,(hf.mem _ _).2 hb⟩
     refine zj00 (vs:=[.slice A fs.length c,.int .i64 s.pc,.slice (some ⟨g,0,none⟩) 1 1]) rfl (fun W hW=>has9 fs A c s.pc [4] _ 1 W hfl (by decide) (hW.rowAt (i:=1) rfl) (hW.cellsAt (i:=3) rfl rfl)) fun v hv=>⟨.bt,by rw[hv,hh]; simp[Is],?_⟩
     (refine Y_go 600 ?_; dsimp only[go_sem,Nat.reduceBEq])
     refine zj00 (vs:=[.slice A fs.length c]) rfl (fun W hW=>zj54 fs A c W hfl (hW.rowAt (i:=1) rfl)) fun v hv=>⟨.bf,by rw[hv,zj3j hf (by decide) (by decide) hb]; simp[Is],?_⟩
     (refine Y_go 600 ?_; dsimp only[go_sem,Nat.reduceBEq])
     exact done _ _ rfl
    ·have hz0:z=0:=by
      have h1:=ne_of_beq_false n1
      have h2:=ne_of_beq_false m1
      have h3:=ne_of_beq_false m2
      have h4:=ne_of_beq_false m3
      have h5:=ne_of_beq_false m4
      rcases end_cases e s.inn with h | h | h | h | h | h <;> omega
     exact⟨_,.add64 (by omega) (by omega),zj01 fun a W rep=>again (s',s.pc,n+1) ⟨hstep hz0,by show s'.n≤((n+1:Nat):Int); omega,by show n+1≤300; omega,hout hz0⟩ (by show 300 - (n+1) < 300 - n; omega) a W (rep.lq)⟩
  (refine Y_go 600 ?_; dsimp only[go_sem,Nat.reduceBEq,reduceAdd,Nat.reduceMul])
  refine⟨fun hlt=>⟨s.pc,rn_get s _ 0 _ hok.r8 rfl,fun hge=>⟨s.inn,rn_get s _ 1 _ hok.r8 rfl,fun _=>done _ _ rfl,fun hin g=>?_⟩,fun hltc=>?_⟩,fun _=>done _ _ rfl⟩
  ·have hge:=of_decide_eq_true hge
   have hb5:=hbad (by simpa using hin) hge
   have hh:hasF fs last [5]=true:=zj1o.2 ⟨5,by simp,(hf.mem _ _).2 hb5⟩
   refine zj00 (vs:=[.slice A fs.length c,.int .i64 last,.slice (some ⟨g,0,none⟩) 1 1]) rfl (fun W hW=>has9 fs A c last [5] _ 1 W hfl (by decide) (hW.rowAt (i:=1) rfl) (hW.cellsAt (i:=2) rfl rfl)) fun v hv=>⟨.bt,by rw[hv,hh]; simp[Is],?_⟩
   (refine Y_go 600 ?_; dsimp only[go_sem,Nat.reduceBEq])
   refine zj00 (vs:=[.slice A fs.length c]) rfl (fun W hW=>zj54 fs A c W hfl (hW.rowAt (i:=1) rfl)) fun v hv=>⟨.bf,by rw[hv,zj3j hf (by decide) (by decide) hb5]; simp[Is],?_⟩
   (refine Y_go 600 ?_; dsimp only[go_sem,Nat.reduceBEq])
   exact done _ _ rfl
  ·have hlt2:s.pc < l.length:=by have:=of_decide_eq_false hltc; omega
   have hp0:=hok.p0
   have hx:l[s.pc.toNat]? = some l[s.pc.toNat]:=List.getElem?_eq_getElem (by omega)
   have cl:∀ k v,k < 5→(l[s.pc.toNat]).cells[k]? = some v→CellAt ⟨w,w.heap.size,[],147,[]⟩ B (s.pc.toNat*5+k) v:=fun k v hk hv=>hB.cell (by rw[zj1k l (by omega) hk]; exact hv)
   have sB:B.isSome=true:=hB.isSome (j:=s.pc.toNat*5) (by rw[zj1c]; omega)
   have cnt:=cnt (by have:=of_decide_eq_true hlt; omega) hlt2 _ hx
   generalize l[s.pc.toNat]=x at hx cl cnt
   refine⟨s.pc,rn_get s _ 0 _ hok.r8 rfl,⟨hp0,hlt2,sB⟩,_,cl 0 _ (by omega) rfl,_,cl 1 _ (by omega) rfl,_,cl 2 _ (by omega) rfl,_,cl 3 _ (by omega) rfl,_,cl 4 _ (by omega) rfl,?_⟩
   have h8:hasF fs s.pc [8]=false:=by
    cases hk:hasF fs s.pc [8] with
    | false=>rfl
    | true =>
     obtain⟨c,hc,hm⟩:=zj1o.1 hk
     rw[List.mem_singleton] at hc
     subst hc
     exact absurd ((hf.mem _ _).1 hm) (not8 hok)
   cases hlg:legalB x with
   | false =>
    refine zj00 (vs:=[In.val x]) rfl (fun W hW=>zj1m x W (hG.keep hW.fresh')) fun v hv=>⟨.bf,by rw[hv,hlg]; simp[Is],?_⟩
    (refine Y_go 600 ?_; dsimp only[go_sem,Nat.reduceBEq,Nat.reduceMul,reduceAdd])
    intro g
    refine zj00 (vs:=[.slice A fs.length c,.int .i64 s.pc,.slice (some ⟨g,0,none⟩) 1 1]) rfl (fun W hW=>has9 fs A c s.pc [8] _ 1 W hfl (by decide) (hW.rowAt (i:=1) rfl) (hW.cellsAt (i:=2) rfl rfl)) fun v hv=>⟨.bf,by rw[hv,h8]; simp[Is],?_⟩
    (refine Y_go 30 ?_; dsimp only[go_sem,Nat.reduceBEq])
    exact fun a W rep=>cnt a W (rep.lq)
   | true =>
    refine zj00 (vs:=[In.val x]) rfl (fun W hW=>zj1m x W (hG.keep hW.fresh')) fun v hv=>⟨.bt,by rw[hv,hlg]; simp[Is],?_⟩
    (refine Y_go 600 ?_; dsimp only[go_sem,Nat.reduceBEq,Nat.reduceMul,reduceAdd])
    intro g
    refine zj00 (vs:=[.slice A fs.length c,.int .i64 s.pc,.slice (some ⟨g,0,none⟩) 1 1]) rfl (fun W hW=>has9 fs A c s.pc [8] _ 1 W hfl (by decide) (hW.rowAt (i:=1) rfl) (hW.cellsAt (i:=2) rfl rfl)) fun v hv=>⟨.bf,by rw[hv,h8]; simp[Is],?_⟩
    (refine Y_go 600 ?_; dsimp only[go_sem,Nat.reduceBEq])
    refine⟨⟨hp0,hlt2,sB⟩,_,cl 0 _ (by omega) rfl,_,cl 1 _ (by omega) rfl,_,cl 2 _ (by omega) rfl,_,cl 3 _ (by omega) rfl,_,cl 4 _ (by omega) rfl,?_⟩
    cases ha:asksB x s.st with
    | false =>
     refine zj00 (vs:=[.pointer (some ⟨g10,0,none⟩),In.val x]) rfl (fun W hW=>asks12 x s _ g10 W hok.r8 hok.s8 hlg (hW.cellsRow (i:=0) rfl)) fun v hv=>⟨.bf,by rw[hv,ha]; simp[Is],?_⟩
     (refine Y_go 30 ?_; dsimp only[go_sem,Nat.reduceBEq])
     exact fun a W rep=>cnt a W (rep.lq)
    | true =>
     refine zj00 (vs:=[.pointer (some ⟨g10,0,none⟩),In.val x]) rfl (fun W hW=>asks12 x s _ g10 W hok.r8 hok.s8 hlg (hW.cellsRow (i:=0) rfl)) fun v hv=>⟨.bt,by rw[hv,ha]; simp[Is],?_⟩
     (refine Y_go 600 ?_; dsimp only[go_sem,Nat.reduceBEq,Nat.reduceMul,reduceAdd])
     intro g5
     have h7:hasF fs s.pc [7]=true:=zj1o.2 ⟨7,by simp,(hf.mem _ _).2 (asks_bad hok hx hlg ha)⟩
     refine zj00 (vs:=[.slice A fs.length c,.int .i64 s.pc,.slice (some ⟨g5,0,none⟩) 1 1]) rfl (fun W hW=>has9 fs A c s.pc [7] _ 1 W hfl (by decide) (hW.rowAt (i:=1) rfl) (hW.cellsAt (i:=3) rfl rfl)) fun v hv=>⟨.bt,by rw[hv,h7]; simp[Is],?_⟩
     (refine Y_go 30 ?_; dsimp only[go_sem,Nat.reduceBEq])
     exact fun a W rep=>cnt a W (rep.lq)
end Go.Proofs.YtgghmmjoplddbaaGreatDoor
