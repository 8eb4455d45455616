/- solo: take. -/
import Derived.Test.YtgghmmjoplddbaaGreatDoorZSoW1
import Derived.Test.YtgghmmjoplddbaaGreatDoorZDoW1
set_option linter.unusedSimpArgs false
set_option linter.unusedVariables false
set_option linter.unnecessarySimpa false
namespace Go.Proofs.YtgghmmjoplddbaaGreatDoor
open Go Go.Sx Go.Isa Go.Lint
open Nat (reduceAdd reduceLT)
set_option maxRecDepth 100000
theorem zj4f {C:Cx} {E:Env} {d:Option Nat} {x:Operand} {f:FuncId} {fst:List Value} {args:List Operand} {l:List XS} {k:List KI} {F:List (Nat × SV)} {gm:Nat} {A:Option Addr} {n c:Nat} {cA fA:Option Addr} {cN cC fN fC:Nat} {ws:List Int} {a0 a1 a2 a3 a4 a5 a6 a7 q0 q1 q2 q3 q4 q5 q6 q7 pc lf bl er fp fl fb fe:Int} {r:List SO} {vs:List Value} (inn:Bool) (Q:Sz→Value→Sz→List SO→Prop) (hok:fnOk C.P f=true)
  (hx:den (soF gm A n c (Sz.mk ⟨cA,cN,cC⟩ ws [a0,a1,a2,a3,a4,a5,a6,a7] pc lf bl er ⟨fA,fN,fC⟩ [q0,q1,q2,q3,q4,q5,q6,q7] fp fl fb fe inn false)++r) (ev F x)=some (.func (.func f) fst.toArray [].toArray)) (hargs:denL (soF gm A n c (Sz.mk ⟨cA,cN,cC⟩ ws [a0,a1,a2,a3,a4,a5,a6,a7] pc lf bl er ⟨fA,fN,fC⟩ [q0,q1,q2,q3,q4,q5,q6,q7] fp fl fb fe inn false)++r) (evL F args)=some vs) (hr:∀ e ∈ r,scpO 0 e=true) (hQ:∀ v z' nw,Q (Sz.mk ⟨cA,cN,cC⟩ ws [a0,a1,a2,a3,a4,a5,a6,a7] pc lf bl er ⟨fA,fN,fC⟩ [q0,q1,q2,q3,q4,q5,q6,q7] fp fl fb fe inn false) v z' nw→∀ e ∈ nw,scpO 0 e=true)
  (hc:∀ W,HeapOk ⟨W,W.heap.size,fps (soF gm A n c (Sz.mk ⟨cA,cN,cC⟩ ws [a0,a1,a2,a3,a4,a5,a6,a7] pc lf bl er ⟨fA,fN,fC⟩ [q0,q1,q2,q3,q4,q5,q6,q7] fp fl fb fe inn false)),0,[]⟩ (soF gm A n c (Sz.mk ⟨cA,cN,cC⟩ ws [a0,a1,a2,a3,a4,a5,a6,a7] pc lf bl er ⟨fA,fN,fC⟩ [q0,q1,q2,q3,q4,q5,q6,q7] fp fl fb fe inn false)) W→CallsV C.P f (fst++vs++[]) W fun v W'=>∃ z' nw,Q (Sz.mk ⟨cA,cN,cC⟩ ws [a0,a1,a2,a3,a4,a5,a6,a7] pc lf bl er ⟨fA,fN,fC⟩ [q0,q1,q2,q3,q4,q5,q6,q7] fp fl fb fe inn false) v z' nw∧HeapOk ⟨W,W.heap.size,fps (soF gm A n c (Sz.mk ⟨cA,cN,cC⟩ ws [a0,a1,a2,a3,a4,a5,a6,a7] pc lf bl er ⟨fA,fN,fC⟩ [q0,q1,q2,q3,q4,q5,q6,q7] fp fl fb fe inn false)),0,[]⟩ (soF gm A n c z'++nw) W')
  (next:∀ v z' nw,Q (Sz.mk ⟨cA,cN,cC⟩ ws [a0,a1,a2,a3,a4,a5,a6,a7] pc lf bl er ⟨fA,fN,fC⟩ [q0,q1,q2,q3,q4,q5,q6,q7] fp fl fb fe inn false) v z' nw→∃ sv,(∀ H,Is H sv v)∧G C E (.ops l :: k) { F:=putF F d sv,H:=soF gm A n c z'++(r++nw) }) :
  G C E (.ops ({ dst:=d,guard:=none,i:=.callv x args } :: l) :: k) { F:=F,H:=soF gm A n c (Sz.mk ⟨cA,cN,cC⟩ ws [a0,a1,a2,a3,a4,a5,a6,a7] pc lf bl er ⟨fA,fN,fC⟩ [q0,q1,q2,q3,q4,q5,q6,q7] fp fl fb fe inn false)++r }:=by
 refine zj63 hx hok hargs (R:=fun W v W'=>∃ z' nw,Q (Sz.mk ⟨cA,cN,cC⟩ ws [a0,a1,a2,a3,a4,a5,a6,a7] pc lf bl er ⟨fA,fN,fC⟩ [q0,q1,q2,q3,q4,q5,q6,q7] fp fl fb fe inn false) v z' nw∧HeapOk ⟨W,W.heap.size,fps (soF gm A n c (Sz.mk ⟨cA,cN,cC⟩ ws [a0,a1,a2,a3,a4,a5,a6,a7] pc lf bl er ⟨fA,fN,fC⟩ [q0,q1,q2,q3,q4,q5,q6,q7] fp fl fb fe inn false)),0,[]⟩ (soF gm A n c z'++nw) W') (fun W hW=>hc W (hW.lend (zj4e gm A n c _) 0 [])) fun W v W' hW ⟨z',nw,hq,hk⟩=>?_
 obtain⟨sv,h1,h2⟩:=next v z' nw hq
 refine⟨sv,_,h1 _,?_,?_,h2⟩
 ·rw[← List.append_assoc]
  exact (HExt.front r (zj4s gm A n c (Sz.mk ⟨cA,cN,cC⟩ ws [a0,a1,a2,a3,a4,a5,a6,a7] pc lf bl er ⟨fA,fN,fC⟩ [q0,q1,q2,q3,q4,q5,q6,q7] fp fl fb fe inn false) z') rfl).trans' (HExt.app _ _)
 ·have:=HeapOk.back (E:=E) hW hr hk
  rw[List.append_assoc] at this
  refine HeapOk.fam this (zj4e gm A n c z') (fun e he=>?_) List.perm_append_comm
  rcases List.mem_append.1 he with h | h
  ·exact hQ v z' nw hq e h
  ·exact hr e h
def toM (z:Sz) (fw:List Int):Mc:=⟨z.ws,z.rs,z.pc,z.bl,z.inn,fw,z.fr⟩
def erC (e:Int):Int:=if e=1 then 190 else if e=2 then 111 else 0
def Tk (E0:Env) (gm:Nat) (A:Option Addr) (n c:Nat) (z:Sz) (fw:List Int) (rs:Rs) (W':World):Prop :=
 (∃ z',(z'.inn=true→z.inn=true)∧SzOk n z'∧z'.ov=false∧z'.lf=z.lf∧z'.cv=z.cv∧z'.fv=z.fv∧z'.bl≤z.bl+1∧0≤z'.bl∧rs=.on (toM z' fw)∧HeapOk E0 (soF gm A n c z') W') ∨
 (∃ z' A' c',z.inn=false∧SzOk n z'∧z'.ov=false∧z'.lf=z.lf∧z'.cv=z.cv∧z'.bl=z.bl∧z'.fv=⟨A',n,c'⟩∧rs=.on (toM z' z.ws)∧HeapOk E0 (soF gm A n c z'++[.own 23 0 1 A' n c' (usV z.ws)]) W') ∨
 (∃ e,(e=0∨e=2)∧rs=.stop (endM (toM z fw) e)∧HeapOk E0 (soG gm A n c (enW z (erC e)) (enZ z (erC e))) W')
theorem ok81:fnOk Tryz.prog 81=true:=by kernel_rfl
theorem ok82:fnOk Tryz.prog 82=true:=by kernel_rfl
theorem ok83:fnOk Tryz.prog 83=true:=by kernel_rfl
theorem ok84:fnOk Tryz.prog 84=true:=by kernel_rfl
theorem ok85:fnOk Tryz.prog 85=true:=by kernel_rfl
theorem ok86s:fnOk Tryz.prog 86=true:=by kernel_rfl
theorem ok87s:fnOk Tryz.prog 87=true:=by kernel_rfl
theorem doB_addr (x:In) (r:List Int) (p:Int):isU (doB x r p).addr:=by
 have hw:∀ n,isU (w64 n):=fun n=>by unfold w64 isU; omega
 have h0:isU 0:=by unfold isU; omega
 have h4:∀ (i:Int) (b:Bool),isU (goE i p b).addr:=fun i b=>by
  unfold goE; cases b
  ·exact h0
  ·by_cases k:i < 0∨1024 < i
   ·simp[k,Ef.zero,h0]
   ·simp[k,h0]
 unfold doB
 by_cases hl:legalB x=true∧0≤p∧p < 1024
 ·rw[if_pos hl]
  rcases zj0g (zj21 hl.1) with h | h | h | h | h | h | h | h | h | h | h | h | h | h | h | h | h | h <;> (simp only[doE,h]; simp)
  all_goals first | exact hw _ | exact h0 | exact h4 _ _
 ·rw[if_neg hl]; exact h0
theorem soF_pre3 (gm:Nat) (A:Option Addr) (n c:Nat) (z:Sz) (A':Option Addr) (n' c':Nat) (xs:List Value):∀ e ∈ soF gm A n c z++[SO.own 23 0 1 A' n' c' xs],scpO (soF gm A n c z++[SO.own 23 0 1 A' n' c' xs]).length e=true:=by
 intro e he
 simp only[soF,List.cons_append,List.nil_append,List.mem_cons,List.not_mem_nil,or_false] at he
 rcases he with rfl | rfl | rfl
 ·exact soC_scp _ _ rfl z
 ·rfl
 ·rfl
theorem scp_bsv (m:Nat) (b:Bool):scp m (bsv b)=true:=by cases b <;> rfl
def fmV (gm f:Nat):Value:=.func (.func f) #[.pointer (some ⟨gm,0,none⟩)] #[]
theorem km {l:List (Value × Value)} (h:∀ p ∈ l,keyIs (.int .i64) p.1=true) (n:Int) (v:Value):∀ p ∈ mput l (.int .i64 n) v,keyIs (.int .i64) p.1=true:=by
 induction l with
 | nil=>intro p hp; simp only[mput,List.mem_singleton] at hp; subst hp; rfl
 | cons q l ih =>
  intro p hp
  unfold mput at hp
  split at hp
  ·rcases List.mem_cons.1 hp with e | hp
   ·subst e; rfl
   ·exact h p (List.mem_cons_of_mem _ hp)
  ·rcases List.mem_cons.1 hp with e | hp
   ·subst e; exact h _ (by simp)
   ·exact ih (fun p hp=>h p (List.mem_cons_of_mem _ hp)) p hp
theorem take57 {E0:Env} {W:World} (gm:Nat) (A:Option Addr) (n c:Nat) (z:Sz) (ok:SzOk n z) (hn:n≤4096) (l:List In) (fw:List Int) (hB:RowE E0 z.cv.A (cellsI l)) (hbl:z.cv.n=l.length) (hl:l.length≤1024) (hG:RowE E0 (some ⟨0,0,none⟩) shL) (hU:∀ v ∈ z.rs,isU v) (hov:z.ov=false)
  (hb:0≤z.bl∧z.bl≤1000000000) (hp:0≤z.pc) (hin:z.pc < l.length∨z.inn=true) (hW:HeapOk E0 (soF gm A n c z) W) :
  CallsV Tryz.prog 57 [.pointer (some ⟨gm,0,none⟩),.int .i64 z.pc] W fun v W'=>v=.tuple #[]∧Tk E0 gm A n c z fw (stepM l (toM z fw)) W':=by
 obtain⟨b0,N,st,nt0,mk0⟩:=E0
 refine zj0j (keep:=K57) (nt:=64) (svs:=[.ptr 0 0,.val (.int .i64 z.pc)]) Tryz.func57 x57 n57 (by simp) hW (by simp[IsL,Is,soF,blk,nth]) fun R hR=>?_
 have hQ:zj0e (endPost Tryz.prog Tryz.f57 R):=zj2c _ _ _
 have bad:∀ (k:List KI) (r:List SO),(∀ F H,(∀ W,HeapOk ⟨b0,N,st,64,[]⟩ H W→R (.tuple #[]) W)→G (cxOf Tryz.prog Tryz.f57 K57 T57 R) ⟨b0,N,st,64,[]⟩ (.ops [] :: k) { F:=F,H:=H })→stepM l (toM z fw)=.stop (endM (toM z fw) 2) →
   ∀ (d t:Nat),G (cxOf Tryz.prog Tryz.f57 K57 T57 R) ⟨b0,N,st,64,[]⟩ (.ops [{ dst:=some d,guard:=none,i:=.call 56 [.tmp t,.const (.int .i64 111)] }] :: k) { F:=[(t,.ptr 0 0)],H:=soF gm A n c z++r }:=by
  intro k r hk hs d t
  refine zj5n gm A n c z ok 111 r rfl (by simp[evL,ev,lk,denL,den,soF,blk,nth,SO.blk]; rfl) (hk _ _ fun W hW=>hR _ _ ⟨rfl,.inr (.inr ⟨2,.inr rfl,hs,so_bkG (enW_scp _ _) hW⟩)⟩)
 have good:∀ (F:List (Nat × SV)) (r:List SO) (z':Sz),(z'.inn=true→z.inn=true)∧SzOk n z'∧z'.ov=false∧z'.lf=z.lf∧z'.cv=z.cv∧z'.fv=z.fv∧z'.bl≤z.bl+1∧0≤z'.bl∧stepM l (toM z fw)=.on (toM z' fw)→RetG (cxOf Tryz.prog Tryz.f57 K57 T57 R) ⟨b0,N,st,64,[]⟩ { F:=F,H:=soF gm A n c z'++r }:=fun F r z' ⟨p1,p2,p3,p4,p5,p6,p7,p8,p9⟩ =>
  zj01 (keep:=K57) (tab:=T57) (vs:=[]) r57 rfl rfl fun W hW=>hR _ _ ⟨rfl,.inl ⟨z',p1,p2,p3,p4,p5,p6,p7,p8,p9,zj2e hW⟩⟩
 obtain⟨⟨cA,cN,cC⟩,ws,rs,pc,lf,bl,er,⟨fA,fN,fC⟩,fr,fp,fl,fb,fe,inn,ov⟩:=z
 obtain⟨h1,h2,h3⟩:=ok
 dsimp only at h1 h2 h3 hB hbl hU hov hb hp hin
 subst hov; subst hbl
 obtain⟨a0,a1,a2,a3,a4,a5,a6,a7,rfl⟩:=ls8 h1
 obtain⟨q0,q1,q2,q3,q4,q5,q6,q7,rfl⟩:=ls8 h2
 have fin:∀ F H,(∀ W,HeapOk ⟨b0,N,st,64,[]⟩ H W→R (.tuple #[]) W)→RetG (cxOf Tryz.prog Tryz.f57 K57 T57 R) ⟨b0,N,st,64,[]⟩ { F:=F,H:=H }:=fun F H h=>zj01 (keep:=K57) (tab:=T57) (vs:=[]) r57 rfl rfl h
 (refine Y_go 600 ?_; dsimp only[go_sem,reduceAdd,soF,soC,Sl.v,rsC,Nat.reduceBEq])
 refine⟨fun hge=>?_,fun hlt=>?_⟩
 ·have hge:=of_decide_eq_true hge
  obtain rfl:inn=true:=by
   rcases hin with h | h
   ·omega
   ·exact h
  refine fun a W rep=>bad _ [] (fun F H h=>?_) ?_ _ 15 a W (rep.few 9 (by (simp only[go_sem,lk,Nat.reduceBEq,reduceLT,reduceAdd] <;> try simp)))
  ·(refine Y_go 600 ?_; dsimp only[go_sem])
   exact fin _ _ h
  ·unfold stepM toM
   dsimp only
   rw[List.getElem?_eq_none (by omega)]; rfl
 ·have hlt:=of_decide_eq_false hlt
  have hpl:pc.toNat < l.length:=by omega
  have hx:l[pc.toNat]? = some l[pc.toNat]:=List.getElem?_eq_getElem hpl
  have hst:stepM l (toM (Sz.mk ⟨cA,l.length,cC⟩ ws [a0,a1,a2,a3,a4,a5,a6,a7] pc lf bl er ⟨fA,fN,fC⟩ [q0,q1,q2,q3,q4,q5,q6,q7] fp fl fb fe inn false) fw)=efM (doB l[pc.toNat] [a0,a1,a2,a3,a4,a5,a6,a7] pc) (toM (Sz.mk ⟨cA,l.length,cC⟩ ws [a0,a1,a2,a3,a4,a5,a6,a7] pc lf bl er ⟨fA,fN,fC⟩ [q0,q1,q2,q3,q4,q5,q6,q7] fp fl fb fe inn false) fw):=zj1e hx
  rw[hst] at hR bad good
  clear hst
  have cl:∀ k v,k < 5→(l[pc.toNat]).cells[k]? = some v→CellAt ⟨b0,N,st,64,[]⟩ cA (pc.toNat*5+k) v:=fun k v hk hv=>hB.cell (by
   rw[zj0y l hpl hk]; exact hv)
  have sB:cA.isSome=true:=hB.isSome (j:=pc.toNat*5) (by rw[zj0o]; omega)
  generalize l[pc.toNat]=x at *
  have hdo:=fun W hW=>do24 x [a0,a1,a2,a3,a4,a5,a6,a7] pc W hW rfl hU
  have hkind:=do_kind x [a0,a1,a2,a3,a4,a5,a6,a7] pc
  have haddr:=doB_addr x [a0,a1,a2,a3,a4,a5,a6,a7] pc
  have hreg:(doB x [a0,a1,a2,a3,a4,a5,a6,a7] pc).kind=1∨(doB x [a0,a1,a2,a3,a4,a5,a6,a7] pc).kind=3→0≤(doB x [a0,a1,a2,a3,a4,a5,a6,a7] pc).reg∧(doB x [a0,a1,a2,a3,a4,a5,a6,a7] pc).reg < 8:=by
   intro hk
   have hlg:legalB x=true:=by
    cases hlg:legalB x with
    | true=>rfl
    | false =>
     have:doB x [a0,a1,a2,a3,a4,a5,a6,a7] pc=Ef.zero:=by unfold doB; rw[if_neg (by simp[hlg])]
     rw[this] at hk; simp[Ef.zero] at hk
   have h1:=do_sets (r:=[a0,a1,a2,a3,a4,a5,a6,a7]) hlg hp (by omega)
   have h2:=h1.2 (h1.1.1 hk)
   rw[h2.1]; exact h2.2
  generalize doB x [a0,a1,a2,a3,a4,a5,a6,a7] pc=e at *
  have cont:∀ g,G (cxOf Tryz.prog Tryz.f57 K57 T57 R) ⟨b0,N,st,64,[]⟩ [.code (.ref 4)] { F:=[(0,.ptr 0 0),(4,.ptr 2 0)],H:=soF gm A n c (Sz.mk ⟨cA,l.length,cC⟩ ws [a0,a1,a2,a3,a4,a5,a6,a7] pc lf bl er ⟨fA,fN,fC⟩ [q0,q1,q2,q3,q4,q5,q6,q7] fp fl fb fe inn false)++[.cells g 39 [.val (.int .i64 e.kind),.val (.int .i64 e.next),.val (.int .i64 e.reg),.val (.int .u64 e.value),.val (.int .u64 e.addr)]] }:=by
   intro g
   obtain⟨ek,en,eg,ev,ea⟩:=e
   dsimp only at hkind haddr hreg
   have bad2:=fun (r:List SO) hs=>bad [] r (fun F H h=>by (refine Y_go 600 ?_; dsimp only[go_sem]); exact fin _ _ h) hs 63 62
   have k0:∀ p ∈ ([]:List (Value × Value)),keyIs (.int .i64) p.1=true:=by simp
   have k1:=km k0 1 (fmV gm 81)
   have k2:=km k1 2 (fmV gm 82)
   have k3:=km k2 3 (fmV gm 83)
   have k4:=km k3 4 (fmV gm 84)
   have k5:=km k4 5 (fmV gm 85)
   have k6:=km k5 6 (fmV gm 86)
   have k7:=km k6 7 (fmV gm 87)
   have hk:ek=0∨ek=1∨ek=2∨ek=3∨ek=4∨ek=5∨ek=6∨ek=7:=by omega
   rcases hk with rfl | rfl | rfl | rfl | rfl | rfl | rfl | rfl
   ·(refine Y_go 600 ?_; dsimp only[go_sem,soF,soC,Sl.v,rsC,reduceAdd,Nat.reduceBEq])
    intro gq
    refine⟨k0,k1,k2,k3,k4,k5,k6,k7,none,rfl,.val .nilFunc,rfl,?_⟩
    dsimp only[go_sem,Option.isSome_none,Nat.reduceBEq,reduceAdd]
    refine⟨fun _=>?_,fun h=>absurd h (by decide)⟩
    exact fun a W rep=>bad2 _ (by simp[efM, *]) a W (rep.few 9 (by (simp only[go_sem,lk,Nat.reduceBEq,reduceLT,reduceAdd] <;> try simp)))
   ·(refine Y_go 600 ?_; dsimp only[go_sem,soF,soC,Sl.v,rsC,reduceAdd,Nat.reduceBEq])
    intro gq
    refine⟨k0,k1,k2,k3,k4,k5,k6,k7,some (fmV gm 81),rfl,.val (fmV gm 81),rfl,?_⟩
    dsimp only[go_sem,Option.isSome_some,Nat.reduceBEq,reduceAdd]
    refine⟨fun h=>absurd h (by decide),fun _=>?_⟩
    refine zj4f (f:=81) (fst:=[.pointer (some ⟨gm,0,none⟩)]) (vs:=[Ef.val ⟨1,en,eg,ev,ea⟩]) inn (fun z v z' nw=>v=.bool true∧z'={ z with rs:=z.rs.set eg.toNat ev,pc:=en }∧nw=[]) ok81 (by rfl) (by rfl) (by simp[scpO,scpL,scp]) (by rintro v z' nw ⟨_,_,rfl⟩; simp) (fun W hh=>(set81 gm A n c _ ⟨rfl,rfl,h3⟩ ⟨1,en,eg,ev,ea⟩ (hreg (.inl rfl)) hh).mono fun v W' hv=>⟨_,[],⟨hv.1,rfl,rfl⟩,by rw[List.append_nil]; exact hv.2⟩) ?_
    rintro v z' nw ⟨rfl,rfl,rfl⟩
    refine⟨.bt,fun H=>by simp[Is],?_⟩
    (refine Y_go 600 ?_; dsimp only[go_sem,Nat.reduceBEq])
    exact good _ _ _ ⟨fun h=>h,⟨by simp,rfl,h3⟩,rfl,rfl,rfl,rfl,by dsimp only; omega,by dsimp only; omega,by simp[efM,toM, *]⟩
   ·(refine Y_go 600 ?_; dsimp only[go_sem,soF,soC,Sl.v,rsC,reduceAdd,Nat.reduceBEq])
    intro gq
    refine⟨k0,k1,k2,k3,k4,k5,k6,k7,some (fmV gm 82),rfl,.val (fmV gm 82),rfl,?_⟩
    dsimp only[go_sem,Option.isSome_some,Nat.reduceBEq,reduceAdd]
    refine⟨fun h=>absurd h (by decide),fun _=>?_⟩
    refine zj4f (f:=82) (fst:=[.pointer (some ⟨gm,0,none⟩)]) (vs:=[Ef.val ⟨2,en,eg,ev,ea⟩]) inn (fun z v z' nw=>v=.bool true∧z'={ z with pc:=en }∧nw=[]) ok82 (by rfl) (by rfl) (by simp[scpO,scpL,scp]) (by rintro v z' nw ⟨_,_,rfl⟩; simp) (fun W hh=>(next82 gm A n c _ ⟨rfl,rfl,h3⟩ ⟨2,en,eg,ev,ea⟩ hh).mono fun v W' hv=>⟨_,[],⟨hv.1,rfl,rfl⟩,by rw[List.append_nil]; exact hv.2⟩) ?_
    rintro v z' nw ⟨rfl,rfl,rfl⟩
    refine⟨.bt,fun H=>by simp[Is],?_⟩
    (refine Y_go 600 ?_; dsimp only[go_sem,Nat.reduceBEq])
    exact good _ _ _ ⟨fun h=>h,⟨rfl,rfl,h3⟩,rfl,rfl,rfl,rfl,by dsimp only; omega,by dsimp only; omega,by simp[efM,toM, *]⟩
   ·(refine Y_go 600 ?_; dsimp only[go_sem,soF,soC,Sl.v,rsC,reduceAdd,Nat.reduceBEq])
    intro gq
    refine⟨k0,k1,k2,k3,k4,k5,k6,k7,some (fmV gm 83),rfl,.val (fmV gm 83),rfl,?_⟩
    dsimp only[go_sem,Option.isSome_some,Nat.reduceBEq,reduceAdd]
    refine⟨fun h=>absurd h (by decide),fun _=>?_⟩
    refine zj4f (f:=83) (fst:=[.pointer (some ⟨gm,0,none⟩)]) (vs:=[Ef.val ⟨3,en,eg,ev,ea⟩]) inn (fun z v z' nw=>(ea < n∧v=.bool true∧z'={ z with rs:=z.rs.set eg.toNat (z.ws.getD ea.toNat 0),pc:=en }∨¬ ea < n∧v=.bool false∧z'=z)∧nw=[]) ok83 (by rfl) (by rfl) (by simp[scpO,scpL,scp]) (by rintro v z' nw ⟨_,rfl⟩; simp) (fun W hh=>(load83 gm A n c _ ⟨rfl,rfl,h3⟩ hn ⟨3,en,eg,ev,ea⟩ (hreg (.inr rfl)) haddr hh).mono fun v W' hv=>(Classical.em (ea < n)).elim (fun h=>⟨_,[],⟨.inl ⟨h,(hv.1 h).1,rfl⟩,rfl⟩,by rw[List.append_nil]; exact (hv.1 h).2⟩) (fun h=>⟨_,[],⟨.inr ⟨h,(hv.2 h).1,rfl⟩,rfl⟩,by rw[List.append_nil]; exact (hv.2 h).2⟩)) ?_
    rintro v z' nw ⟨⟨hlt2,rfl,rfl⟩ | ⟨hlt2,rfl,rfl⟩,rfl⟩
    ·refine⟨.bt,fun H=>by simp[Is],?_⟩
     (refine Y_go 600 ?_; dsimp only[go_sem,Nat.reduceBEq])
     exact good _ _ _ ⟨fun h=>h,⟨by simp,rfl,by simp[h3]⟩,rfl,rfl,rfl,rfl,by dsimp only; omega,by dsimp only; omega,by simp[efM,toM, *]⟩
    ·refine⟨.bf,fun H=>by simp[Is],?_⟩
     (refine Y_go 600 ?_; dsimp only[go_sem,Nat.reduceBEq])
     exact fun a W rep=>bad2 _ (by simp[efM,toM, *]) a W (rep.few 9 (by (simp only[go_sem,lk,Nat.reduceBEq,reduceLT,reduceAdd] <;> try simp)))
   ·(refine Y_go 600 ?_; dsimp only[go_sem,soF,soC,Sl.v,rsC,reduceAdd,Nat.reduceBEq])
    intro gq
    refine⟨k0,k1,k2,k3,k4,k5,k6,k7,some (fmV gm 84),rfl,.val (fmV gm 84),rfl,?_⟩
    dsimp only[go_sem,Option.isSome_some,Nat.reduceBEq,reduceAdd]
    refine⟨fun h=>absurd h (by decide),fun _=>?_⟩
    refine zj4f (f:=84) (fst:=[.pointer (some ⟨gm,0,none⟩)]) (vs:=[Ef.val ⟨4,en,eg,ev,ea⟩]) inn (fun z v z' nw=>(ea < n∧v=.bool true∧z'={ z with ws:=z.ws.set ea.toNat ev,pc:=en }∨¬ ea < n∧v=.bool false∧z'=z)∧nw=[]) ok84 (by rfl) (by rfl) (by simp[scpO,scpL,scp]) (by rintro v z' nw ⟨_,rfl⟩; simp) (fun W hh=>(store84 gm A n c _ ⟨rfl,rfl,h3⟩ hn ⟨4,en,eg,ev,ea⟩ haddr hh).mono fun v W' hv=>(Classical.em (ea < n)).elim (fun h=>⟨_,[],⟨.inl ⟨h,(hv.1 h).1,rfl⟩,rfl⟩,by rw[List.append_nil]; exact (hv.1 h).2⟩) (fun h=>⟨_,[],⟨.inr ⟨h,(hv.2 h).1,rfl⟩,rfl⟩,by rw[List.append_nil]; exact (hv.2 h).2⟩)) ?_
    rintro v z' nw ⟨⟨hlt2,rfl,rfl⟩ | ⟨hlt2,rfl,rfl⟩,rfl⟩
    ·refine⟨.bt,fun H=>by simp[Is],?_⟩
     (refine Y_go 600 ?_; dsimp only[go_sem,Nat.reduceBEq])
     exact good _ _ _ ⟨fun h=>h,⟨by simp,rfl,by simp[h3]⟩,rfl,rfl,rfl,rfl,by dsimp only; omega,by dsimp only; omega,by simp[efM,toM, *]⟩
    ·refine⟨.bf,fun H=>by simp[Is],?_⟩
     (refine Y_go 600 ?_; dsimp only[go_sem,Nat.reduceBEq])
     exact fun a W rep=>bad2 _ (by simp[efM,toM, *]) a W (rep.few 9 (by (simp only[go_sem,lk,Nat.reduceBEq,reduceLT,reduceAdd] <;> try simp)))
   ·(refine Y_go 600 ?_; dsimp only[go_sem,soF,soC,Sl.v,rsC,reduceAdd,Nat.reduceBEq])
    intro gq
    refine⟨k0,k1,k2,k3,k4,k5,k6,k7,some (fmV gm 85),rfl,.val (fmV gm 85),rfl,?_⟩
    dsimp only[go_sem,Option.isSome_some,Nat.reduceBEq,reduceAdd]
    refine⟨fun h=>absurd h (by decide),fun _=>?_⟩
    refine zj4f (f:=85) (fst:=[.pointer (some ⟨gm,0,none⟩)]) (vs:=[Ef.val ⟨5,en,eg,ev,ea⟩]) inn (fun z v z' nw=>inn=true∧v=.bool false∧z'=z∧nw=[]∨inn=false∧v=.bool true∧∃ A' c',z'=beZ z en ⟨A',n,c'⟩∧nw=[.own 23 0 1 A' n c' (usV ws)]) ok85 (by rfl) (by rfl) (by simp[scpO,scpL,scp]) (by rintro v z' nw (⟨_,_,_,rfl⟩ | ⟨_,_,A',c',_,rfl⟩) <;> simp[scpO]) (fun W hh=>(begin85 gm A n c _ ⟨rfl,rfl,h3⟩ hn rfl ⟨5,en,eg,ev,ea⟩ hh).mono fun v W' hv=>by
     cases hi:inn with
     | true=>exact⟨_,[],.inl ⟨rfl,by rw[hv.1]; simp[hi],rfl,rfl⟩,by rw[List.append_nil,← hi]; exact hv.2.1 hi⟩
     | false=>exact (hv.2.2 hi).elim fun A' h=>h.elim fun c' h=>⟨_,_,.inr ⟨rfl,by rw[hv.1]; simp[hi],A',c',rfl,rfl⟩,by rw[hi] at h; exact h⟩) ?_
    rintro v z' nw (⟨rfl,rfl,rfl,rfl⟩ | ⟨rfl,rfl,A',c',rfl,rfl⟩)
    ·refine⟨.bf,fun H=>by simp[Is],?_⟩
     (refine Y_go 600 ?_; dsimp only[go_sem,Nat.reduceBEq])
     exact fun a W rep=>bad2 _ (by simp[efM,toM]) a W (rep.few 9 (by (simp only[go_sem,lk,Nat.reduceBEq,reduceLT,reduceAdd] <;> try simp)))
    ·refine⟨.bt,fun H=>by simp[Is],?_⟩
     (refine Y_go 600 ?_; dsimp only[go_sem,Nat.reduceBEq])
     refine fin _ _ fun W hW=>hR _ _ ⟨rfl,.inr (.inl ⟨beZ (Sz.mk ⟨cA,l.length,cC⟩ ws [a0,a1,a2,a3,a4,a5,a6,a7] pc lf bl er ⟨fA,fN,fC⟩ [q0,q1,q2,q3,q4,q5,q6,q7] fp fl fb fe false false) en ⟨A',n,c'⟩,A',c',rfl,⟨rfl,rfl,h3⟩,rfl,rfl,rfl,rfl,rfl,by simp[efM,toM,beZ],?_⟩)⟩
     refine HeapOk.env (E:=⟨b0,N,st,64,[]⟩) (E':=⟨b0,N,st,nt0,mk0⟩) rfl rfl rfl ?_
     have h6:=HeapOk.fam hW (zj4e gm A n c _) (by simp[scpO,scpL,scp]) (List.perm_append_comm (l₁:=[_,_]) (l₂:=[_]))
     rw[← List.append_assoc] at h6
     exact h6.pre (soF_pre3 gm A n c _ _ _ _ _)
   ·(refine Y_go 600 ?_; dsimp only[go_sem,soF,soC,Sl.v,rsC,reduceAdd,Nat.reduceBEq])
    intro gq
    refine⟨k0,k1,k2,k3,k4,k5,k6,k7,some (fmV gm 86),rfl,.val (fmV gm 86),rfl,?_⟩
    dsimp only[go_sem,Option.isSome_some,Nat.reduceBEq,reduceAdd]
    refine⟨fun h=>absurd h (by decide),fun _=>?_⟩
    refine zj4f (f:=86) (fst:=[.pointer (some ⟨gm,0,none⟩)]) (vs:=[Ef.val ⟨6,en,eg,ev,ea⟩]) inn (fun z v z' nw=>v=.bool inn∧z'=(if inn=true then { z with inn:=false,bl:=bl+1,pc:=en } else z)∧nw=[]) ok86s (by rfl) (by rfl) (by simp[scpO,scpL,scp]) (by rintro v z' nw ⟨_,_,rfl⟩; simp) (fun W hh=>(finish86 gm A n c _ ⟨rfl,rfl,h3⟩ ⟨hb.1,by dsimp only; omega⟩ ⟨6,en,eg,ev,ea⟩ hh).mono fun v W' hv=>⟨_,[],⟨hv.1,rfl,rfl⟩,by rw[List.append_nil]; exact hv.2⟩) ?_
    rintro v z' nw ⟨rfl,rfl,rfl⟩
    cases inn
    ·refine⟨.bf,fun H=>by simp[Is],?_⟩
     rw[if_neg (by decide)]
     (refine Y_go 600 ?_; dsimp only[go_sem,Nat.reduceBEq])
     exact fun a W rep=>bad2 _ (by simp[efM,toM]) a W (rep.few 9 (by (simp only[go_sem,lk,Nat.reduceBEq,reduceLT,reduceAdd] <;> try simp)))
    ·refine⟨.bt,fun H=>by simp[Is],?_⟩
     rw[if_pos rfl]
     (refine Y_go 600 ?_; dsimp only[go_sem,Nat.reduceBEq])
     exact good _ _ _ ⟨fun h=>(by cases h),⟨rfl,rfl,h3⟩,rfl,rfl,rfl,rfl,by dsimp only; omega,by dsimp only; omega,by simp[efM,toM, *]⟩
   ·(refine Y_go 600 ?_; dsimp only[go_sem,soF,soC,Sl.v,rsC,reduceAdd,Nat.reduceBEq])
    intro gq
    refine⟨k0,k1,k2,k3,k4,k5,k6,k7,some (fmV gm 87),rfl,.val (fmV gm 87),rfl,?_⟩
    dsimp only[go_sem,Option.isSome_some,Nat.reduceBEq,reduceAdd]
    refine⟨fun h=>absurd h (by decide),fun _=>?_⟩
    refine zj4f (f:=87) (fst:=[.pointer (some ⟨gm,0,none⟩)]) (vs:=[Ef.val ⟨7,en,eg,ev,ea⟩]) inn (fun z v z' nw=>v=.bool (!inn)∧z'=(if inn=true then z else { z with er:=0,ov:=true })∧nw=[]) ok87s (by rfl) (by rfl) (by simp[scpO,scpL,scp]) (by rintro v z' nw ⟨_,_,rfl⟩; simp) (fun W hh=>(halt87 gm A n c _ ⟨rfl,rfl,h3⟩ ⟨7,en,eg,ev,ea⟩ hh).mono fun v W' hv=>⟨_,[],⟨hv.1,rfl,rfl⟩,by rw[List.append_nil]; exact hv.2⟩) ?_
    rintro v z' nw ⟨rfl,rfl,rfl⟩
    cases inn
    ·refine⟨.bt,fun H=>by simp[Is],?_⟩
     rw[if_neg (by decide)]
     (refine Y_go 600 ?_; dsimp only[go_sem,Nat.reduceBEq])
     exact fin _ _ fun W hW=>hR _ _ ⟨rfl,.inr (.inr ⟨0,.inl rfl,by simp[efM,toM],zj2e hW⟩)⟩
    ·refine⟨.bf,fun H=>by simp[Is],?_⟩
     rw[if_pos rfl]
     (refine Y_go 600 ?_; dsimp only[go_sem,Nat.reduceBEq])
     exact fun a W rep=>bad2 _ (by simp[efM,toM]) a W (rep.few 9 (by (simp only[go_sem,lk,Nat.reduceBEq,reduceLT,reduceAdd] <;> try simp)))
  (refine alt_y rfl hQ 600 ?_; dsimp only[go_sem,YT_k,YT_alt,YT_call,Nat.reduceBEq,reduceAdd])
  refine⟨⟨hp,(by omega:pc < l.length),sB⟩,_,cl 0 _ (by omega) rfl,_,cl 1 _ (by omega) rfl,_,cl 2 _ (by omega) rfl,_,cl 3 _ (by omega) rfl,_,cl 4 _ (by omega) rfl,?_,fun g6=>?_⟩
  ·refine zj29 (vs:=[In.val x,.agg #[.int .u64 a0,.int .u64 a1,.int .u64 a2,.int .u64 a3,.int .u64 a4,.int .u64 a5,.int .u64 a6,.int .u64 a7],.int .i64 pc]) rfl (fun W hW=>hdo W (RowE.at hG (HeapOk.env (E:=⟨b0,N,st,64,[]⟩) (E':=⟨b0,N,st,nt0,mk0⟩) rfl rfl rfl hW))) fun v hv=>⟨efS e,by rw[hv]; exact efS_is _ e,?_⟩
   (refine gt_y rfl hQ 0 ?_; dsimp only[go_sem,efS,YT_k,YT_done,Nat.reduceBEq,Y_0,reduceAdd])
   exact fun g6 a W rep=>cont g6 a W (rep.le (by (simp only[go_sem,lk,Nat.reduceBEq,reduceLT,reduceAdd] <;> try simp); exact (by decide:(2:Nat) < 3)) (by simp only[soF,soG,soC,rsC,efS,Sl.v,List.map_cons,List.map_nil,List.cons_append,List.nil_append]; (simp only[go_sem,lk,Nat.reduceBEq,reduceLT,reduceAdd] <;> try simp); exact⟨scp_bsv _ _,scp_bsv _ _⟩))
  ·refine zj29 (vs:=[In.val x,.agg #[.int .u64 a0,.int .u64 a1,.int .u64 a2,.int .u64 a3,.int .u64 a4,.int .u64 a5,.int .u64 a6,.int .u64 a7],.int .i64 pc]) rfl (fun W hW=>hdo W (RowE.at hG (HeapOk.env (E:=⟨b0,N,st,64,[]⟩) (E':=⟨b0,N,st,nt0,mk0⟩) rfl rfl rfl hW))) fun v hv=>⟨efS e,by rw[hv]; exact efS_is _ e,?_⟩
   (refine gt_y rfl hQ 0 ?_; dsimp only[go_sem,efS,YT_k,YT_done,Nat.reduceBEq,Y_0,reduceAdd])
   exact fun a W rep=>cont g6 a W (rep.le (by (simp only[go_sem,lk,Nat.reduceBEq,reduceLT,reduceAdd] <;> try simp); exact (by decide:(2:Nat) < 3)) (by simp only[soF,soG,soC,rsC,efS,Sl.v,List.map_cons,List.map_nil,List.cons_append,List.nil_append]; (simp only[go_sem,lk,Nat.reduceBEq,reduceLT,reduceAdd] <;> try simp); exact⟨scp_bsv _ _,scp_bsv _ _⟩))
theorem heapUnlend {E:Env} {H1 H1' r nw:List SO} {W W':World} {nt:Nat} {mk:List Nat} (h:HeapOk E (H1++r) W) (k:HeapOk ⟨W,W.heap.size,fps H1,nt,mk⟩ (H1'++nw) W') (x:HExt H1 H1') (hl:H1'.length=H1.length) (hs:∀ e ∈ H1',scpO H1'.length e=true) (hn:∀ e ∈ nw,scpO 0 e=true):HeapOk E (H1'++r++nw) W':=by
 have u:HeapOk E (H1'++r) W':=h.unlend (k.pre hs) x hl
 have old1:∀ j,E.old j→Env.old ⟨W,W.heap.size,fps H1,nt,mk⟩ j:=fun j hj=>⟨Nat.lt_of_lt_of_le hj.1 h.floor,fun hm=>by
  obtain⟨i,e,hi,hg⟩:=zj1w.1 hm
  exact (h.fresh i e j (zj04 hi) hg).2 hj⟩
 have oldr:∀ e ∈ r,∀ g,e.fp=some g→Env.old ⟨W,W.heap.size,fps H1,nt,mk⟩ g:=fun e he g hg=>by
  refine⟨(h.fr (List.mem_append_right _ he) hg).1,fun hm=>?_⟩
  obtain⟨j,e',hj,hg'⟩:=zj1w.1 hm
  obtain⟨i,hi⟩:=List.getElem?_of_mem he
  have hi':nth (H1++r) (H1.length+i)=some e:=zj12 (by omega) (by rw[Nat.add_sub_cancel_left,nth_eq]; exact hi)
  exact h.dist j (H1.length+i) e' e g (by have:=nth_lt hj; omega) (zj04 hj) hi' hg' hg
 refine HeapOk.mk' u.keep u.floor (fun e he=>?_) (fun e he g hg=>?_) ?_
 ·rcases List.mem_append.1 he with h1 | h1
  ·exact (u.ent h1).mono (HExt.app _ _) fun _ _=>rfl
  ·exact (k.ent (List.mem_append_right _ h1)).shut (hn e h1)
 ·rcases List.mem_append.1 he with h1 | h1
  ·exact u.fr h1 hg
  ·have:=k.fr (List.mem_append_right _ h1) hg
   exact⟨this.1,fun ho=>this.2 (old1 g ho)⟩
 ·rw[List.pairwise_append]
  refine⟨u.apart,(List.pairwise_append.1 k.apart).2.1,fun e he e' he' g hg hg'=>?_⟩
  rcases List.mem_append.1 he with h1 | h1
  ·exact (List.pairwise_append.1 k.apart).2.2 e h1 e' he' g hg hg'
  ·exact (k.fr (List.mem_append_right _ he') hg').2 (oldr e h1 g hg)
theorem overLess {E A:Env} {st:List Nat} (nt:Nat) (mk:List Nat) (h:Over E A) (hs:∀ j ∈ st,j ∈ A.stolen):Over E ⟨A.b,A.N,st,nt,mk⟩ :=
 ⟨h.keep,fun j hj=>⟨(h.sub j hj).1,fun hm=>(h.sub j hj).2 (hs j hm)⟩,h.floor⟩
def z0S (cv:Sl) (ws rs:List Int) (steps:Int):Sz:=⟨cv,ws,rs,0,steps,0,0,⟨none,0,0⟩,[0,0,0,0,0,0,0,0],0,0,0,0,false,false⟩
theorem start33 (B WA:Option Addr) (bn bc wc:Nat) (ws rs:List Int) (steps:Int) (w:World) (hW:RowAt w WA (usV ws)) (h8:rs.length=8) (hwl:ws.length≤1000000) :
  CallsV Tryz.prog 33 [.slice B bn bc,.agg (rs.map uV).toArray,.int .i64 0,.slice WA ws.length wc,.int .i64 steps] w fun v w' =>
   (bn≤1024∧ws.length≤4096∧0≤steps∧steps≤1048576→∃ gm A c,v=.tuple #[.pointer (some ⟨gm,0,none⟩),.int .i64 0]∧HeapOk ⟨w,w.heap.size,[],0,[]⟩ (soF gm A ws.length c (z0S ⟨B,bn,bc⟩ ws rs steps)) w') ∧
   (¬ (bn≤1024∧ws.length≤4096∧0≤steps∧steps≤1048576)→v=.tuple #[.pointer none,.int .i64 2]∧Fresh w w'):=by
 obtain⟨a0,a1,a2,a3,a4,a5,a6,a7,rfl⟩:=ls8 h8
 refine zj03 (keep:=K33) (nt:=45) (svs:=[.val (.slice B bn bc),.agg [.val (uV a0),.val (uV a1),.val (uV a2),.val (uV a3),.val (uV a4),.val (uV a5),.val (uV a6),.val (uV a7)],.val (.int .i64 0),.val (.slice WA ws.length wc),.val (.int .i64 steps)]) Tryz.func33 x33 n33 (by simp) (by simp[IsL,Is]) fun R hR=>?_
 (refine Y_go 600 ?_; dsimp only[go_sem,uV,reduceAdd,Nat.reduceBEq])
 intro g6
 have bad:∀ F H,denAll H F [10,11]=some [.pointer none,.int .i64 2]→¬ (bn≤1024∧ws.length≤4096∧0≤steps∧steps≤1048576)→RetG (cxOf Tryz.prog Tryz.f33 K33 T33 R) ⟨w,w.heap.size,[],45,[]⟩ { F:=F,H:=H }:=fun F H hd hno =>
  zj01 (vs:=[.pointer none,.int .i64 2]) r33 rfl hd fun W hW=>hR _ _ ⟨fun k=>absurd k hno,fun _=>⟨rfl,hW.fresh'⟩⟩
 refine⟨fun h=>bad _ _ rfl (by have:=of_decide_eq_true h; omega),fun h1=>⟨fun h=>absurd h (by decide),fun _=>⟨fun h=>absurd h (by decide),fun _=>⟨fun h=>bad _ _ rfl (by have:=of_decide_eq_true h; omega),fun h2=>⟨fun h=>bad _ _ rfl (by have:=of_decide_eq_true h; omega),fun h3=>⟨fun h=>bad _ _ rfl (by have:=of_decide_eq_true h; omega),fun h4=>?_⟩⟩⟩⟩⟩⟩
 have h1:=of_decide_eq_false h1
 have h2:=of_decide_eq_false h2
 have h3:=of_decide_eq_false h3
 have h4:=of_decide_eq_false h4
 have good:bn≤1024∧ws.length≤4096∧0≤steps∧steps≤1048576:=by omega
 refine zj1d (vs:=[.slice WA ws.length wc]) rfl (t:=23) (sz:=1) (n:=ws.length) (xs:=usV ws) (fun W hh=>clone54 WA wc ws W (hW.keep hh.fresh') (by omega)) fun A2 c2=>?_
 (refine Y_go 600 ?_; dsimp only[go_sem,reduceAdd])
 (refine zj1f (by dsimp only[go_sem,Nat.reduceBEq,reduceAdd]; exact⟨rfl,zj06 rfl⟩) ?_; refine Y_go 600 ?_; dsimp only[go_sem,Nat.reduceBEq,reduceAdd])
 intro gm
 have done:RetG (cxOf Tryz.prog Tryz.f33 K33 T33 R) ⟨w,w.heap.size,[],45,[]⟩ { F:=[(10,.ptr 0 0),(11,.val (.int .i64 0))],H:=soF gm A2 ws.length c2 (z0S ⟨B,bn,bc⟩ ws [a0,a1,a2,a3,a4,a5,a6,a7] steps) } :=
  zj01 (vs:=[.pointer (some ⟨gm,0,none⟩),.int .i64 0]) r33 rfl rfl fun W hW=>hR _ _ ⟨fun _=>⟨gm,A2,c2,rfl,HeapOk.env (E:=⟨w,w.heap.size,[],45,[]⟩) (E':=⟨w,w.heap.size,[],0,[]⟩) rfl rfl rfl hW⟩,fun k=>absurd good k⟩
 exact fun a W rep=>done a W ((rep.pick [2,1] (by decide)).le (by simp only[soF,soC,rsC,bsv,z0S,Sl.v,List.map_cons,List.map_nil,List.cons_append,List.nil_append]; (simp only[go_sem,renF,renV,renVL,renO,pickH,pickE,posOf,lk,Nat.reduceBEq,reduceLT,reduceAdd] <;> try simp)) (by simp only[soF,soC,rsC,bsv,z0S,Sl.v,List.map_cons,List.map_nil,List.cons_append,List.nil_append]; (simp only[go_sem,renF,renV,renVL,renO,pickH,pickE,posOf,lk,Nat.reduceBEq,reduceLT,reduceAdd] <;> try simp)))
theorem steps34 (A:Option Addr) (w:World) :
  CallsV Tryz.prog 34 [.pointer A] w fun v w'=>∃ g1,v=.func (.func 55) #[] #[.pointer (some ⟨g1,0,none⟩)]∧HeapOk ⟨w,w.heap.size,[],4,[]⟩ [.cells g1 85 [.val (.pointer A)]] w':=by
 refine zj03 (keep:=K34) (nt:=4) (svs:=[.val (.pointer A)]) Tryz.func34 x34 n34 (by simp) (by simp[IsL,Is]) fun R hR=>?_
 (refine Y_go 600 ?_; dsimp only[go_sem,reduceAdd,Nat.reduceBEq])
 intro g1
 exact zj01 (vs:=[.func (.func 55) #[] #[.pointer (some ⟨g1,0,none⟩)]]) r34 rfl rfl fun W hW=>hR _ _ ⟨g1,rfl,hW⟩
theorem okSt:fnOk Tryz.prog 55=true:=by kernel_rfl
end Go.Proofs.YtgghmmjoplddbaaGreatDoor
