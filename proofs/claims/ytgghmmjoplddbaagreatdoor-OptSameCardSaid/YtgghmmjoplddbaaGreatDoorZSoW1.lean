/- solo: the machine in memory; next, set, load, store, finish, halt. -/
import Derived.Test.YtgghmmjoplddbaaGreatDoorFlPlain
import Derived.Test.YtgghmmjoplddbaaGreatDoorZBgIsa1
import Derived.Test.YtgghmmjoplddbaaGreatDoorZSoCode
set_option linter.unusedSimpArgs false
set_option linter.unusedVariables false
set_option linter.unnecessarySimpa false
namespace Go.Proofs.YtgghmmjoplddbaaGreatDoor
open Go Go.Sx Go.Isa Go.Lint
open Nat (reduceAdd reduceLT)
set_option maxRecDepth 100000
structure Sl where
 A:Option Addr
 n:Nat
 c:Nat
def Sl.v (s:Sl):Value:=.slice s.A s.n s.c
structure Sz where
 cv:Sl
 ws:List Int
 rs:List Int
 pc:Int
 lf:Int
 bl:Int
 er:Int
 fv:Sl
 fr:List Int
 fp:Int
 fl:Int
 fb:Int
 fe:Int
 inn:Bool
 ov:Bool
def rsC (l:List Int):List SV:=l.map fun v=>.val (.int .u64 v)
def usV (l:List Int):List Value:=l.map fun v=>.int .u64 v
def soC (wv:SV) (z:Sz):List SV:=[.val z.cv.v,wv]++rsC z.rs++[.val (.int .i64 z.pc),.val (.int .i64 z.lf),.val (.int .i64 z.bl),.val (.int .i64 z.er),.val z.fv.v]++rsC z.fr++[.val (.int .i64 z.fp),.val (.int .i64 z.fl),.val (.int .i64 z.fb),.val (.int .i64 z.fe),bsv z.inn,bsv z.ov]
def soF (gm:Nat) (A:Option Addr) (n c:Nat) (z:Sz):List SO:=[.cells gm 92 (soC (.own 1 0) z),.own 23 0 1 A n c (usV z.ws)]
theorem zj7x:∀ (m:Nat) (l:List Int),scpL m (rsC l)=true
 | _,[]=>rfl
 | m,x :: l=>by show (true && scpL m (rsC l))=true; rw[zj7x m l]; rfl
theorem zj4d (m:Nat):∀ (a b:List SV),scpL m a=true→scpL m b=true→scpL m (a++b)=true
 | [],_,_,h=>h
 | x :: a,b,h,k=>by
  simp only[scpL,Bool.and_eq_true,List.cons_append] at *
  exact⟨h.1,zj4d m a b h.2 k⟩
theorem soC_scp (m:Nat) (wv:SV) (hw:scp m wv=true) (z:Sz):scpL m (soC wv z)=true:=by
 unfold soC
 refine zj4d _ _ _ (zj4d _ _ _ (zj4d _ _ _ (zj4d _ _ _ ?_ (zj7x _ _)) rfl) (zj7x _ _)) ?_
 ·simp[scpL,scp,hw]
 ·obtain⟨⟨cA,cN,cC⟩,ws,rs,pc,lf,bl,er,⟨fA,fN,fC⟩,fr,fp,fl,fb,fe,inn,ov⟩:=z
  cases inn <;> cases ov <;> rfl
theorem soF_scp (gm:Nat) (A:Option Addr) (n c:Nat) (z:Sz):(soF gm A n c z).all (scpO 2)=true:=by
 simp only[soF,List.all_cons,List.all_nil,scpO,Bool.and_true,Bool.and_eq_true]
 exact soC_scp _ _ rfl z
theorem zj4e (gm:Nat) (A:Option Addr) (n c:Nat) (z:Sz):∀ e ∈ soF gm A n c z,scpO (soF gm A n c z).length e=true:=fun e he=>List.all_eq_true.1 (soF_scp gm A n c z) e he
theorem zj4s (gm:Nat) (A:Option Addr) (n c:Nat) (z z':Sz):HExt (soF gm A n c z) (soF gm A n c z'):=by
 have h1:HExt (soF gm A n c z) (setn (soF gm A n c z) 0 (.cells gm 92 (soC (.own 1 0) z'))):=HExt.setBlk (i:=0) (e:=.cells gm 92 (soC (.own 1 0) z)) rfl rfl rfl
 refine h1.trans' ⟨fun i g h=>?_,fun i t ver sz A' n' c' xs h=>?_⟩
 ·match i,h with
  | 0,h=>exact h
  | 1,h=>exact h
 ·match i,h with
  | 1,h =>
   injection h with h; injection h with h1 h2 h3 h4 h5 h6 h7
   subst h1; subst h2; subst h3; subst h4; subst h5; subst h6
   exact⟨_,_,_,_,_,_,_,rfl,Nat.le_refl _,fun _=>⟨rfl,rfl,rfl⟩⟩
def efS (e:Ef):SV:=.agg [.val (.int .i64 e.kind),.val (.int .i64 e.next),.val (.int .i64 e.reg),.val (.int .u64 e.value),.val (.int .u64 e.addr)]
theorem efS_is (H:List SO) (e:Ef):Is H (efS e) e.val:=by
 simp[efS,Is,IsL,Ef.val,Ef.cells]
structure SzOk (n:Nat) (z:Sz):Prop where
 r8:z.rs.length=8
 f8:z.fr.length=8
 wn:z.ws.length=n
theorem ls8 {l:List Int} (h:l.length=8):∃ a b c d e f g i,l=[a,b,c,d,e,f,g,i]:=by
 match l,h with
 | [a,b,c,d,e,f,g,i],_=>exact⟨a,b,c,d,e,f,g,i,rfl⟩
theorem zj4t {gm:Nat} {A:Option Addr} {n c:Nat} (z:Sz) (e:Ef):IsL (soF gm A n c z) [.ptr 0 0,efS e] [.pointer (some ⟨gm,0,none⟩),e.val]:=by
 simp only[IsL]; exact⟨_,_,by simp[Is,soF,blk,nth,SO.blk],⟨_,_,efS_is _ _,rfl,rfl⟩,rfl⟩
theorem zj2e {b0:World} {N nt nt0:Nat} {st mk0:List Nat} {gm:Nat} {A:Option Addr} {n c:Nat} {z:Sz} {r:List SO} {W:World} (h:HeapOk ⟨b0,N,st,nt,[]⟩ (soF gm A n c z++r) W):HeapOk ⟨b0,N,st,nt0,mk0⟩ (soF gm A n c z) W:=HeapOk.env (E:=⟨b0,N,st,nt,[]⟩) (E':=⟨b0,N,st,nt0,mk0⟩) rfl rfl rfl (h.pre (zj4e gm A n c _))
theorem next82 {E0:Env} {W:World} (gm:Nat) (A:Option Addr) (n c:Nat) (z:Sz) (ok:SzOk n z) (e:Ef) (hW:HeapOk E0 (soF gm A n c z) W) :
  CallsV Tryz.prog 82 [.pointer (some ⟨gm,0,none⟩),e.val] W fun v W'=>v=.bool true∧HeapOk E0 (soF gm A n c { z with pc:=e.next }) W':=by
 obtain⟨b0,N,st,nt0,mk0⟩:=E0
 obtain⟨⟨cA,cN,cC⟩,ws,rs,pc,lf,bl,er,⟨fA,fN,fC⟩,fr,fp,fl,fb,fe,inn,ov⟩:=z
 obtain⟨h1,h2,h3⟩:=ok
 dsimp only at h1 h2 h3
 obtain⟨a0,a1,a2,a3,a4,a5,a6,a7,rfl⟩:=ls8 h1
 obtain⟨q0,q1,q2,q3,q4,q5,q6,q7,rfl⟩:=ls8 h2
 refine zj0j (keep:=K82) (nt:=11) (svs:=[.ptr 0 0,efS e]) Tryz.func82 x82 n82 (by simp) hW (by simp only[IsL]; exact⟨_,_,by simp[Is,soF,blk,nth,SO.blk],⟨_,_,efS_is _ e,rfl,rfl⟩,rfl⟩) fun R hR=>?_
 have fin:∀ (z':Sz) (v:Value) (W:World) (r:List SO),v=.bool true→z'={ Sz.mk ⟨cA,cN,cC⟩ ws [a0,a1,a2,a3,a4,a5,a6,a7] pc lf bl er ⟨fA,fN,fC⟩ [q0,q1,q2,q3,q4,q5,q6,q7] fp fl fb fe inn ov with pc:=e.next }→HeapOk ⟨b0,N,st,11,[]⟩ (soF gm A n c z'++r) W→R v W:=fun z' v W r hv hz hW=>by subst hz; exact hR _ _ ⟨hv,HeapOk.env (E:=⟨b0,N,st,11,[]⟩) (E':=⟨b0,N,st,nt0,mk0⟩) rfl rfl rfl (hW.pre (zj4e gm A n c _))⟩
 (refine Y_go 600 ?_; dsimp only[go_sem,efS,reduceAdd,soF,soC,Sl.v,rsC,Nat.reduceBEq])
 intro g
 exact zj01 (vs:=[.bool true]) r82 rfl rfl fun W hW=>fin _ _ W [_] rfl rfl hW
theorem call_next {C:Cx} {E:Env} {d:Option Nat} {args:List Operand} {l:List XS} {k:List KI} {F:List (Nat × SV)} (gm:Nat) (A:Option Addr) (n c:Nat) (z:Sz) (ok:SzOk n z) (e:Ef) (r:List SO) (hP:C.P=Tryz.prog)
  (hargs:denL (soF gm A n c z++r) (evL F args)=some [.pointer (some ⟨gm,0,none⟩),e.val])
  (next:G C E (.ops l :: k) { F:=putF F d .bt,H:=soF gm A n c { z with pc:=e.next }++r }) :
  G C E (.ops ({ dst:=d,guard:=none,i:=.call 82 args } :: l) :: k) { F:=F,H:=soF gm A n c z++r }:=by
 refine zj2s (H1:=soF gm A n c z) (r:=r) (fun v H1'=>v=.bool true∧H1'=soF gm A n c { z with pc:=e.next }) (soF_scp gm A n c z) hargs (fun W hW hh=>?_) fun v H1' hv=>?_
 ·rw[hP]
  exact (next82 gm A n c z ok e hh).mono fun v W' hv=>⟨_,⟨hv.1,rfl⟩,zj4s gm A n c z _,rfl,hv.2⟩
 obtain⟨rfl,rfl⟩:=hv
 exact⟨.bt,by simp[Is],next⟩
theorem cv64 {a:Int} (h0:0≤a) (h1:a < 18446744073709551616):ConvOk .u64 a a:=by
 have:=ConvOk.u64' a
 rwa [Int.emod_eq_of_lt h0 h1] at this
theorem usV_get {ws:List Int} {i:Nat} (h:i < ws.length):(usV ws)[i*1]? = some (.int .u64 (ws.getD i 0)):=by
 unfold usV
 rw[Nat.mul_one,List.getElem?_map,List.getD_eq_getElem?_getD,List.getElem?_eq_getElem h]; rfl
theorem usV_set (ws:List Int) (i:Nat) (v:Int):setn (usV ws) (i*1) (.int .u64 v)=usV (ws.set i v):=by
 rw[zj0k]; unfold usV; rw[Nat.mul_one,List.map_set]
theorem usV_len (ws:List Int):(usV ws).length=ws.length:=by simp[usV]
theorem zj6u {C:Cx} {E:Env} {d:Option Nat} {args:List Operand} {l:List XS} {k:List KI} {F:List (Nat × SV)} {gm:Nat} {A:Option Addr} {n c:Nat} {cA fA:Option Addr} {cN cC fN fC:Nat} {ws:List Int} {a0 a1 a2 a3 a4 a5 a6 a7 q0 q1 q2 q3 q4 q5 q6 q7 pc lf bl er fp fl fb fe:Int} {ek en eg ev ea:Int} {r:List SO} (inn ov:Bool) (hn:ws.length=n) (hP:C.P=Tryz.prog)
  (hargs:denL (soF gm A n c (Sz.mk ⟨cA,cN,cC⟩ ws [a0,a1,a2,a3,a4,a5,a6,a7] pc lf bl er ⟨fA,fN,fC⟩ [q0,q1,q2,q3,q4,q5,q6,q7] fp fl fb fe inn ov)++r) (evL F args)=some [.pointer (some ⟨gm,0,none⟩),Ef.val ⟨ek,en,eg,ev,ea⟩])
  (next:G C E (.ops l :: k) { F:=putF F d .bt,H:=soF gm A n c { (Sz.mk ⟨cA,cN,cC⟩ ws [a0,a1,a2,a3,a4,a5,a6,a7] pc lf bl er ⟨fA,fN,fC⟩ [q0,q1,q2,q3,q4,q5,q6,q7] fp fl fb fe inn ov) with pc:=en }++r }) :
  G C E (.ops ({ dst:=d,guard:=none,i:=.call 82 args } :: l) :: k) { F:=F,H:=soF gm A n c (Sz.mk ⟨cA,cN,cC⟩ ws [a0,a1,a2,a3,a4,a5,a6,a7] pc lf bl er ⟨fA,fN,fC⟩ [q0,q1,q2,q3,q4,q5,q6,q7] fp fl fb fe inn ov)++r } :=
 call_next gm A n c _ ⟨rfl,rfl,hn⟩ _ _ hP hargs next
theorem set81 {E0:Env} {W:World} (gm:Nat) (A:Option Addr) (n c:Nat) (z:Sz) (ok:SzOk n z) (e:Ef) (he:0≤e.reg∧e.reg < 8) (hW:HeapOk E0 (soF gm A n c z) W) :
  CallsV Tryz.prog 81 [.pointer (some ⟨gm,0,none⟩),e.val] W fun v W'=>v=.bool true∧HeapOk E0 (soF gm A n c { z with rs:=z.rs.set e.reg.toNat e.value,pc:=e.next }) W':=by
 obtain⟨b0,N,st,nt0,mk0⟩:=E0
 obtain⟨ek,en,eg,ev,ea⟩:=e
 refine zj0j (keep:=K81) (nt:=17) (svs:=[.ptr 0 0,efS ⟨ek,en,eg,ev,ea⟩]) Tryz.func81 x81 n81 (by simp) hW (zj4t z _) fun R hR=>?_
 have hg:eg=0∨eg=1∨eg=2∨eg=3∨eg=4∨eg=5∨eg=6∨eg=7:=by simp only at he; omega
 have fin:∀ (z':Sz) (W:World) (r:List SO),z'={ z with rs:=z.rs.set eg.toNat ev,pc:=en }→HeapOk ⟨b0,N,st,17,[]⟩ (soF gm A n c z'++r) W→R (.bool true) W:=fun z' W r hz hW=>by subst hz; exact hR _ _ ⟨rfl,zj2e hW⟩
 clear hR hW
 obtain⟨⟨cA,cN,cC⟩,ws,rs,pc,lf,bl,er,⟨fA,fN,fC⟩,fr,fp,fl,fb,fe,inn,ov⟩:=z
 obtain⟨h1,h2,h3⟩:=ok
 dsimp only at h1 h2 h3
 obtain⟨a0,a1,a2,a3,a4,a5,a6,a7,rfl⟩:=ls8 h1
 obtain⟨q0,q1,q2,q3,q4,q5,q6,q7,rfl⟩:=ls8 h2
 rcases hg with rfl | rfl | rfl | rfl | rfl | rfl | rfl | rfl
 all_goals
  (refine Y_go 600 ?_; dsimp only[go_sem,efS,reduceAdd,soF,soC,Sl.v,rsC,bsv,Nat.reduceBEq,Int.reduceToNat,Nat.reduceMul])
  intro g
  refine⟨⟨by decide,by decide⟩,?_⟩
  refine zj6u inn ov h3 rfl (by rfl) ?_
  (refine Y_go 600 ?_; dsimp only[go_sem,Nat.reduceBEq])
  exact zj01 (vs:=[.bool true]) r81 rfl rfl fun W hW=>fin _ W [_] rfl hW
theorem load83 {E0:Env} {W:World} (gm:Nat) (A:Option Addr) (n c:Nat) (z:Sz) (ok:SzOk n z) (hn:n≤4096) (e:Ef) (he:0≤e.reg∧e.reg < 8) (ha:isU e.addr) (hW:HeapOk E0 (soF gm A n c z) W) :
  CallsV Tryz.prog 83 [.pointer (some ⟨gm,0,none⟩),e.val] W fun v W'=>(e.addr < n→v=.bool true∧HeapOk E0 (soF gm A n c { z with rs:=z.rs.set e.reg.toNat (z.ws.getD e.addr.toNat 0),pc:=e.next }) W')∧(¬ e.addr < n→v=.bool false∧HeapOk E0 (soF gm A n c z) W'):=by
 obtain⟨b0,N,st,nt0,mk0⟩:=E0
 obtain⟨ek,en,eg,ev,ea⟩:=e
 refine zj0j (keep:=K83) (nt:=34) (svs:=[.ptr 0 0,efS ⟨ek,en,eg,ev,ea⟩]) Tryz.func83 x83 n83 (by simp) hW (zj4t z _) fun R hR=>?_
 have hg:eg=0∨eg=1∨eg=2∨eg=3∨eg=4∨eg=5∨eg=6∨eg=7:=by simp only at he; omega
 have fin:∀ (z':Sz) (W:World) (r:List SO),ea < n→z'={ z with rs:=z.rs.set eg.toNat (z.ws.getD ea.toNat 0),pc:=en }→HeapOk ⟨b0,N,st,34,[]⟩ (soF gm A n c z'++r) W→R (.bool true) W:=fun z' W r hlt hz hW=>by subst hz; exact hR _ _ ⟨fun _=>⟨rfl,zj2e hW⟩,fun k=>absurd hlt k⟩
 have fin2:∀ (W:World) (r:List SO),¬ ea < n→HeapOk ⟨b0,N,st,34,[]⟩ (soF gm A n c z++r) W→R (.bool false) W:=fun W r hlt hW=>hR _ _ ⟨fun k=>absurd k hlt,fun _=>⟨rfl,zj2e hW⟩⟩
 clear hR hW
 unfold isU at ha
 dsimp only at ha
 obtain⟨⟨cA,cN,cC⟩,ws,rs,pc,lf,bl,er,⟨fA,fN,fC⟩,fr,fp,fl,fb,fe,inn,ov⟩:=z
 obtain⟨h1,h2,h3⟩:=ok
 dsimp only at h1 h2 h3
 obtain⟨a0,a1,a2,a3,a4,a5,a6,a7,rfl⟩:=ls8 h1
 obtain⟨q0,q1,q2,q3,q4,q5,q6,q7,rfl⟩:=ls8 h2
 rcases hg with rfl | rfl | rfl | rfl | rfl | rfl | rfl | rfl
 all_goals
  (refine Y_go 600 ?_; dsimp only[go_sem,efS,reduceAdd,soF,soC,Sl.v,rsC,bsv,Nat.reduceBEq,Int.reduceToNat,Nat.reduceMul])
  intro g
  refine⟨(n:Int),cv64 (by omega) (by omega),fun hge=>?_,fun hlt=>?_⟩
  ·exact zj01 (vs:=[.bool false]) r83 rfl rfl fun W hW=>fin2 W [_] (by have:=of_decide_eq_true hge; omega) hW
  ·have hlt:ea < n:=by have:=of_decide_eq_false hlt; omega
   refine⟨⟨by omega,hlt⟩,_,usV_get (by omega),⟨by decide,by decide⟩,?_⟩
   refine zj6u inn ov h3 rfl (by rfl) ?_
   (refine Y_go 600 ?_; dsimp only[go_sem,Nat.reduceBEq])
   exact zj01 (vs:=[.bool true]) r83 rfl rfl fun W hW=>fin _ W [_] hlt rfl hW
theorem store84 {E0:Env} {W:World} (gm:Nat) (A:Option Addr) (n c:Nat) (z:Sz) (ok:SzOk n z) (hn:n≤4096) (e:Ef) (ha:isU e.addr) (hW:HeapOk E0 (soF gm A n c z) W) :
  CallsV Tryz.prog 84 [.pointer (some ⟨gm,0,none⟩),e.val] W fun v W'=>(e.addr < n→v=.bool true∧HeapOk E0 (soF gm A n c { z with ws:=z.ws.set e.addr.toNat e.value,pc:=e.next }) W')∧(¬ e.addr < n→v=.bool false∧HeapOk E0 (soF gm A n c z) W'):=by
 obtain⟨b0,N,st,nt0,mk0⟩:=E0
 obtain⟨ek,en,eg,ev,ea⟩:=e
 refine zj0j (keep:=K84) (nt:=28) (svs:=[.ptr 0 0,efS ⟨ek,en,eg,ev,ea⟩]) Tryz.func84 x84 n84 (by simp) hW (zj4t z _) fun R hR=>?_
 have fin:∀ (z':Sz) (W:World) (r:List SO),ea < n→z'={ z with ws:=z.ws.set ea.toNat ev,pc:=en }→HeapOk ⟨b0,N,st,28,[]⟩ (soF gm A n c z'++r) W→R (.bool true) W:=fun z' W r hlt hz hW=>by subst hz; exact hR _ _ ⟨fun _=>⟨rfl,zj2e hW⟩,fun k=>absurd hlt k⟩
 have fin2:∀ (W:World) (r:List SO),¬ ea < n→HeapOk ⟨b0,N,st,28,[]⟩ (soF gm A n c z++r) W→R (.bool false) W:=fun W r hlt hW=>hR _ _ ⟨fun k=>absurd k hlt,fun _=>⟨rfl,zj2e hW⟩⟩
 unfold isU at ha
 dsimp only at ha
 obtain⟨⟨cA,cN,cC⟩,ws,rs,pc,lf,bl,er,⟨fA,fN,fC⟩,fr,fp,fl,fb,fe,inn,ov⟩:=z
 obtain⟨h1,h2,h3⟩:=ok
 dsimp only at h1 h2 h3
 obtain⟨a0,a1,a2,a3,a4,a5,a6,a7,rfl⟩:=ls8 h1
 obtain⟨q0,q1,q2,q3,q4,q5,q6,q7,rfl⟩:=ls8 h2
 (refine Y_go 600 ?_; dsimp only[go_sem,efS,reduceAdd,soF,soC,Sl.v,rsC,bsv,Nat.reduceBEq])
 intro g
 refine⟨(n:Int),cv64 (by omega) (by omega),fun hge=>?_,fun hlt=>?_⟩
 ·exact zj01 (vs:=[.bool false]) r84 rfl rfl fun W hW=>fin2 W [_] (by have:=of_decide_eq_true hge; omega) hW
 ·have hlt:ea < n:=by have:=of_decide_eq_false hlt; omega
  refine⟨⟨by omega,hlt⟩,by rw[usV_len]; omega,?_⟩
  rw[usV_set]
  refine zj6u (ws:=ws.set ea.toNat ev) inn ov (by simp[h3]) rfl (by rfl) ?_
  (refine Y_go 600 ?_; dsimp only[go_sem,Nat.reduceBEq])
  exact zj01 (vs:=[.bool true]) r84 rfl rfl fun W hW=>fin _ W [_] hlt rfl hW
theorem finish86 {E0:Env} {W:World} (gm:Nat) (A:Option Addr) (n c:Nat) (z:Sz) (ok:SzOk n z) (hb:0≤z.bl∧z.bl≤4611686018427387904) (e:Ef) (hW:HeapOk E0 (soF gm A n c z) W) :
  CallsV Tryz.prog 86 [.pointer (some ⟨gm,0,none⟩),e.val] W fun v W'=>v=.bool z.inn∧HeapOk E0 (soF gm A n c (if z.inn=true then { z with inn:=false,bl:=z.bl+1,pc:=e.next } else z)) W':=by
 obtain⟨b0,N,st,nt0,mk0⟩:=E0
 obtain⟨ek,en,eg,ev,ea⟩:=e
 refine zj0j (keep:=K86) (nt:=25) (svs:=[.ptr 0 0,efS ⟨ek,en,eg,ev,ea⟩]) Tryz.func86 x86 n86 (by simp) hW (zj4t z _) fun R hR=>?_
 obtain⟨⟨cA,cN,cC⟩,ws,rs,pc,lf,bl,er,⟨fA,fN,fC⟩,fr,fp,fl,fb,fe,inn,ov⟩:=z
 obtain⟨h1,h2,h3⟩:=ok
 dsimp only at h1 h2 h3 hb
 obtain⟨a0,a1,a2,a3,a4,a5,a6,a7,rfl⟩:=ls8 h1
 obtain⟨q0,q1,q2,q3,q4,q5,q6,q7,rfl⟩:=ls8 h2
 have fin:∀ (z':Sz) (b:Bool) (W:World) (r:List SO),b=inn→z'=(if inn=true then { Sz.mk ⟨cA,cN,cC⟩ ws [a0,a1,a2,a3,a4,a5,a6,a7] pc lf bl er ⟨fA,fN,fC⟩ [q0,q1,q2,q3,q4,q5,q6,q7] fp fl fb fe inn ov with inn:=false,bl:=bl+1,pc:=en } else Sz.mk ⟨cA,cN,cC⟩ ws [a0,a1,a2,a3,a4,a5,a6,a7] pc lf bl er ⟨fA,fN,fC⟩ [q0,q1,q2,q3,q4,q5,q6,q7] fp fl fb fe inn ov)→HeapOk ⟨b0,N,st,25,[]⟩ (soF gm A n c z'++r) W→R (.bool b) W:=fun z' b W r hb hz hW=>by subst hz; subst hb; exact hR _ _ ⟨rfl,zj2e hW⟩
 cases inn
 ·(refine Y_go 600 ?_; dsimp only[go_sem,efS,reduceAdd,soF,soC,Sl.v,rsC,bsv,Nat.reduceBEq])
  intro g
  exact zj01 (vs:=[.bool false]) r86 rfl rfl fun W hW=>fin _ _ W [_] rfl rfl hW
 ·(refine Y_go 600 ?_; dsimp only[go_sem,efS,reduceAdd,soF,soC,Sl.v,rsC,bsv,Nat.reduceBEq])
  intro g
  refine⟨bl+1,ArOk.to (by omega) (by omega) (by omega),?_⟩
  refine zj6u false ov h3 rfl (by rfl) ?_
  (refine Y_go 600 ?_; dsimp only[go_sem,Nat.reduceBEq])
  exact zj01 (vs:=[.bool true]) r86 rfl rfl fun W hW=>fin _ _ W [_] rfl rfl hW
def soG (gm:Nat) (A:Option Addr) (n c:Nat) (wv:SV) (z:Sz):List SO:=[.cells gm 92 (soC wv z),.own 23 0 1 A n c (usV z.ws)]
theorem soG_scp (gm:Nat) (A:Option Addr) (n c:Nat) (wv:SV) (z:Sz) (hw:scp 2 wv=true):(soG gm A n c wv z).all (scpO 2)=true:=by
 simp only[soG,List.all_cons,List.all_nil,scpO,Bool.and_true]
 exact soC_scp _ _ hw z
theorem soG_pre (gm:Nat) (A:Option Addr) (n c:Nat) (wv:SV) (z:Sz) (hw:scp 2 wv=true):∀ e ∈ soG gm A n c wv z,scpO (soG gm A n c wv z).length e=true:=fun e he=>List.all_eq_true.1 (soG_scp gm A n c wv z hw) e he
theorem soG_ext (gm:Nat) (A:Option Addr) (n c:Nat) (wv wv':SV) (z z':Sz):HExt (soG gm A n c wv z) (soG gm A n c wv' z'):=by
 have h1:HExt (soG gm A n c wv z) (setn (soG gm A n c wv z) 0 (.cells gm 92 (soC wv' z'))):=HExt.setBlk (i:=0) (e:=.cells gm 92 (soC wv z)) rfl rfl rfl
 refine h1.trans' ⟨fun i g h=>?_,fun i t ver sz A' n' c' xs h=>?_⟩
 ·match i,h with
  | 0,h=>exact h
  | 1,h=>exact h
 ·match i,h with
  | 1,h =>
   injection h with h; injection h with h1 h2 h3 h4 h5 h6 h7
   subst h1; subst h2; subst h3; subst h4; subst h5; subst h6
   exact⟨_,_,_,_,_,_,_,rfl,Nat.le_refl _,fun _=>⟨rfl,rfl,rfl⟩⟩
def enW (z:Sz) (e:Int):SV:=if z.inn=true∧e ≠ 0 then .val z.fv.v else .own 1 0
def enZ (z:Sz) (e:Int):Sz:=if z.inn=true∧e ≠ 0 then { z with rs:=z.fr,pc:=z.fp,er:=e,ov:=true } else { z with er:=e,ov:=true }
theorem enW_scp (z:Sz) (e:Int):scp 2 (enW z e)=true:=by unfold enW; split <;> rfl
theorem end56 {E0:Env} {W:World} (gm:Nat) (A:Option Addr) (n c:Nat) (z:Sz) (ok:SzOk n z) (e:Int) (hW:HeapOk E0 (soF gm A n c z) W) :
  CallsV Tryz.prog 56 [.pointer (some ⟨gm,0,none⟩),.int .i64 e] W fun v W'=>v=.tuple #[]∧HeapOk E0 (soG gm A n c (enW z e) (enZ z e)) W':=by
 obtain⟨b0,N,st,nt0,mk0⟩:=E0
 obtain⟨⟨cA,cN,cC⟩,ws,rs,pc,lf,bl,er,⟨fA,fN,fC⟩,fr,fp,fl,fb,fe,inn,ov⟩:=z
 obtain⟨h1,h2,h3⟩:=ok
 dsimp only at h1 h2 h3
 obtain⟨a0,a1,a2,a3,a4,a5,a6,a7,rfl⟩:=ls8 h1
 obtain⟨q0,q1,q2,q3,q4,q5,q6,q7,rfl⟩:=ls8 h2
 refine zj0j (keep:=K56) (nt:=47) (svs:=[.ptr 0 0,.val (.int .i64 e)]) Tryz.func56 x56 n56 (by simp) hW (by simp[IsL,Is,soF,blk,nth]) fun R hR=>?_
 cases inn
 ·(refine Y_go 600 ?_; dsimp only[go_sem,reduceAdd,soF,soC,Sl.v,rsC,bsv,Nat.reduceBEq])
  have hz:enZ (Sz.mk ⟨cA,cN,cC⟩ ws [a0,a1,a2,a3,a4,a5,a6,a7] pc lf bl er ⟨fA,fN,fC⟩ [q0,q1,q2,q3,q4,q5,q6,q7] fp fl fb fe false ov) e={ Sz.mk ⟨cA,cN,cC⟩ ws [a0,a1,a2,a3,a4,a5,a6,a7] pc lf bl er ⟨fA,fN,fC⟩ [q0,q1,q2,q3,q4,q5,q6,q7] fp fl fb fe false ov with er:=e,ov:=true }:=by unfold enZ; simp
  have hw:enW (Sz.mk ⟨cA,cN,cC⟩ ws [a0,a1,a2,a3,a4,a5,a6,a7] pc lf bl er ⟨fA,fN,fC⟩ [q0,q1,q2,q3,q4,q5,q6,q7] fp fl fb fe false ov) e=.own 1 0:=by unfold enW; simp[Sl.v]
  rw[hz,hw] at hR
  exact zj01 (keep:=K56) (tab:=T56) (vs:=[]) r56 rfl rfl fun W hW=>hR _ _ ⟨rfl,HeapOk.env (E:=⟨b0,N,st,47,[]⟩) (E':=⟨b0,N,st,nt0,mk0⟩) rfl rfl rfl hW⟩
 ·(refine Y_go 600 ?_; dsimp only[go_sem,reduceAdd,soF,soC,Sl.v,rsC,bsv,Nat.reduceBEq])
  refine⟨fun he=>?_,fun he=>?_⟩
  ·have he:e ≠ 0:=by simpa using he
   have hz:enZ (Sz.mk ⟨cA,cN,cC⟩ ws [a0,a1,a2,a3,a4,a5,a6,a7] pc lf bl er ⟨fA,fN,fC⟩ [q0,q1,q2,q3,q4,q5,q6,q7] fp fl fb fe true ov) e={ Sz.mk ⟨cA,cN,cC⟩ ws [a0,a1,a2,a3,a4,a5,a6,a7] pc lf bl er ⟨fA,fN,fC⟩ [q0,q1,q2,q3,q4,q5,q6,q7] fp fl fb fe true ov with rs:=[q0,q1,q2,q3,q4,q5,q6,q7],pc:=fp,er:=e,ov:=true }:=by unfold enZ; simp[he]
   have hw:enW (Sz.mk ⟨cA,cN,cC⟩ ws [a0,a1,a2,a3,a4,a5,a6,a7] pc lf bl er ⟨fA,fN,fC⟩ [q0,q1,q2,q3,q4,q5,q6,q7] fp fl fb fe true ov) e=.val (.slice fA fN fC):=by unfold enW; simp[Sl.v,he]
   rw[hz,hw] at hR
   exact zj01 (keep:=K56) (tab:=T56) (vs:=[]) r56 rfl rfl fun W hW=>hR _ _ ⟨rfl,HeapOk.env (E:=⟨b0,N,st,47,[]⟩) (E':=⟨b0,N,st,nt0,mk0⟩) rfl rfl rfl hW⟩
  ·have he:e=0:=by simpa using he
   have hz:enZ (Sz.mk ⟨cA,cN,cC⟩ ws [a0,a1,a2,a3,a4,a5,a6,a7] pc lf bl er ⟨fA,fN,fC⟩ [q0,q1,q2,q3,q4,q5,q6,q7] fp fl fb fe true ov) e={ Sz.mk ⟨cA,cN,cC⟩ ws [a0,a1,a2,a3,a4,a5,a6,a7] pc lf bl er ⟨fA,fN,fC⟩ [q0,q1,q2,q3,q4,q5,q6,q7] fp fl fb fe true ov with er:=e,ov:=true }:=by unfold enZ; simp[he]
   have hw:enW (Sz.mk ⟨cA,cN,cC⟩ ws [a0,a1,a2,a3,a4,a5,a6,a7] pc lf bl er ⟨fA,fN,fC⟩ [q0,q1,q2,q3,q4,q5,q6,q7] fp fl fb fe true ov) e=.own 1 0:=by unfold enW; simp[Sl.v,he]
   rw[hz,hw] at hR
   exact zj01 (keep:=K56) (tab:=T56) (vs:=[]) r56 rfl rfl fun W hW=>hR _ _ ⟨rfl,HeapOk.env (E:=⟨b0,N,st,47,[]⟩) (E':=⟨b0,N,st,nt0,mk0⟩) rfl rfl rfl hW⟩
theorem zj5n {C:Cx} {E:Env} {d:Option Nat} {args:List Operand} {l:List XS} {k:List KI} {F:List (Nat × SV)} (gm:Nat) (A:Option Addr) (n c:Nat) (z:Sz) (ok:SzOk n z) (e:Int) (r:List SO) (hP:C.P=Tryz.prog)
  (hargs:denL (soF gm A n c z++r) (evL F args)=some [.pointer (some ⟨gm,0,none⟩),.int .i64 e])
  (next:G C E (.ops l :: k) { F:=putF F d (.tup []),H:=soG gm A n c (enW z e) (enZ z e)++r }) :
  G C E (.ops ({ dst:=d,guard:=none,i:=.call 56 args } :: l) :: k) { F:=F,H:=soF gm A n c z++r }:=by
 refine zj2s (H1:=soF gm A n c z) (r:=r) (fun v H1'=>v=.tuple #[]∧H1'=soG gm A n c (enW z e) (enZ z e)) (soF_scp gm A n c z) hargs (fun W hW hh=>?_) fun v H1' hv=>?_
 ·rw[hP]
  exact (end56 gm A n c z ok e hh).mono fun v W' hv=>⟨_,⟨hv.1,rfl⟩,soG_ext gm A n c _ _ z _,rfl,hv.2⟩
 obtain⟨rfl,rfl⟩:=hv
 exact⟨.tup [],by simp only[Is,IsL]; exact⟨[],rfl,rfl⟩,next⟩
theorem call_ex {C:Cx} {E:Env} {d:Option Nat} {args:List Operand} {l:List XS} {k:List KI} {F:List (Nat × SV)} {gm:Nat} {A:Option Addr} {n c:Nat} {cA fA:Option Addr} {cN cC fN fC:Nat} {ws:List Int} {a0 a1 a2 a3 a4 a5 a6 a7 q0 q1 q2 q3 q4 q5 q6 q7 pc lf bl er fp fl fb fe:Int} {r:List SO} (inn ov:Bool) (e:Int) (hn:ws.length=n) (hP:C.P=Tryz.prog)
  (hargs:denL (soF gm A n c (Sz.mk ⟨cA,cN,cC⟩ ws [a0,a1,a2,a3,a4,a5,a6,a7] pc lf bl er ⟨fA,fN,fC⟩ [q0,q1,q2,q3,q4,q5,q6,q7] fp fl fb fe inn ov)++r) (evL F args)=some [.pointer (some ⟨gm,0,none⟩),.int .i64 e])
  (next:G C E (.ops l :: k) { F:=putF F d (.tup []),H:=soG gm A n c (enW (Sz.mk ⟨cA,cN,cC⟩ ws [a0,a1,a2,a3,a4,a5,a6,a7] pc lf bl er ⟨fA,fN,fC⟩ [q0,q1,q2,q3,q4,q5,q6,q7] fp fl fb fe inn ov) e) (enZ (Sz.mk ⟨cA,cN,cC⟩ ws [a0,a1,a2,a3,a4,a5,a6,a7] pc lf bl er ⟨fA,fN,fC⟩ [q0,q1,q2,q3,q4,q5,q6,q7] fp fl fb fe inn ov) e)++r }) :
  G C E (.ops ({ dst:=d,guard:=none,i:=.call 56 args } :: l) :: k) { F:=F,H:=soF gm A n c (Sz.mk ⟨cA,cN,cC⟩ ws [a0,a1,a2,a3,a4,a5,a6,a7] pc lf bl er ⟨fA,fN,fC⟩ [q0,q1,q2,q3,q4,q5,q6,q7] fp fl fb fe inn ov)++r } :=
 zj5n gm A n c _ ⟨rfl,rfl,hn⟩ e r hP hargs next
theorem so_bkG {b0:World} {N nt nt0:Nat} {st mk0:List Nat} {gm:Nat} {A:Option Addr} {n c:Nat} {wv:SV} {z:Sz} {r:List SO} {W:World} (hw:scp 2 wv=true) (h:HeapOk ⟨b0,N,st,nt,[]⟩ (soG gm A n c wv z++r) W):HeapOk ⟨b0,N,st,nt0,mk0⟩ (soG gm A n c wv z) W:=HeapOk.env (E:=⟨b0,N,st,nt,[]⟩) (E':=⟨b0,N,st,nt0,mk0⟩) rfl rfl rfl (h.pre (soG_pre gm A n c _ _ hw))
theorem halt87 {E0:Env} {W:World} (gm:Nat) (A:Option Addr) (n c:Nat) (z:Sz) (ok:SzOk n z) (e:Ef) (hW:HeapOk E0 (soF gm A n c z) W) :
  CallsV Tryz.prog 87 [.pointer (some ⟨gm,0,none⟩),e.val] W fun v W'=>v=.bool (!z.inn)∧HeapOk E0 (soF gm A n c (if z.inn=true then z else { z with er:=0,ov:=true })) W':=by
 obtain⟨b0,N,st,nt0,mk0⟩:=E0
 obtain⟨ek,en,eg,ev,ea⟩:=e
 refine zj0j (keep:=K87) (nt:=17) (svs:=[.ptr 0 0,efS ⟨ek,en,eg,ev,ea⟩]) Tryz.func87 x87 n87 (by simp) hW (zj4t z _) fun R hR=>?_
 have fin:∀ (z':Sz) (b:Bool) (W:World) (r:List SO),b=(!z.inn)→z'=(if z.inn=true then z else { z with er:=0,ov:=true })→HeapOk ⟨b0,N,st,17,[]⟩ (soF gm A n c z'++r) W→R (.bool b) W:=fun z' b W r hb hz hW=>by subst hz; subst hb; exact hR _ _ ⟨rfl,zj2e hW⟩
 obtain⟨⟨cA,cN,cC⟩,ws,rs,pc,lf,bl,er,⟨fA,fN,fC⟩,fr,fp,fl,fb,fe,inn,ov⟩:=z
 obtain⟨h1,h2,h3⟩:=ok
 dsimp only at h1 h2 h3
 obtain⟨a0,a1,a2,a3,a4,a5,a6,a7,rfl⟩:=ls8 h1
 obtain⟨q0,q1,q2,q3,q4,q5,q6,q7,rfl⟩:=ls8 h2
 cases inn
 ·(refine Y_go 600 ?_; dsimp only[go_sem,efS,reduceAdd,soF,soC,Sl.v,rsC,bsv,Nat.reduceBEq])
  intro g
  refine call_ex false ov 0 h3 rfl (by rfl) ?_
  (refine Y_go 600 ?_; dsimp only[go_sem,enW,Sl.v,enZ,soG,soC,rsC,bsv,Nat.reduceBEq,reduceAdd])
  exact zj01 (vs:=[.bool true]) r87 rfl rfl fun W hW=>fin _ _ W [_] rfl rfl hW
 ·(refine Y_go 600 ?_; dsimp only[go_sem,efS,reduceAdd,soF,soC,Sl.v,rsC,bsv,Nat.reduceBEq])
  intro g
  exact zj01 (vs:=[.bool false]) r87 rfl rfl fun W hW=>fin _ _ W [_] rfl rfl hW
theorem one_us (l:List Int):∀ u ∈ usV l,u.oneCell'=true:=by
 intro u hu
 simp only[usV,List.mem_map] at hu
 obtain⟨x,_,rfl⟩:=hu; rfl
theorem clone54 (A:Option Addr) (c:Nat) (l:List Int) (w:World) (hA:RowAt w A (usV l)) (hl:l.length≤2000000) :
  CallsV Tryz.prog 54 [.slice A l.length c] w fun v w'=>World.ownsB w' w.heap.size 23 1 v l.length (usV l)∧Fresh w w':=by
 refine zj03 (keep:=K54) (nt:=8) (svs:=[.val (.slice A l.length c)]) Tryz.func54 x54 n54 (by simp) (by simp[IsL,Is]) fun R hR=>?_
 (refine Y_go 600 ?_; dsimp only[go_sem,reduceAdd,Nat.reduceBEq,Nat.reduceMul])
 refine⟨fun h=>?_,fun h g=>?_⟩
 ·have hl0:l=[]:=by
   cases l with
   | nil=>rfl
   | cons x l=>have:=hA.isSome (j:=0) (by simp[usV]); cases A <;> simp_all
  subst hl0
  exact zj01 (vs:=[.slice none 0 0]) r54 rfl rfl fun W hW=>hR _ _ ⟨zj1b _ _ _ _,hW.fresh'⟩
 ·have hrd:=hA.rd (nt:=8) (one_us l)
  rw[usV_len,← Nat.mul_one l.length] at hrd
  refine⟨_,hrd,⟨by simp only[maxLen]; omega,by omega⟩,fun A1 c1=>?_⟩
  refine zj01 (vs:=[.slice A1 (0+l.length) c1]) r54 rfl rfl fun W hW=>hR _ _ ⟨?_,hW.fresh'⟩
  have:=hW.owns (i:=1) rfl
  simp only[Nat.zero_add,Nat.mul_one] at this ⊢
  exact this
theorem own_is {H:List SO} {i ver n c sz:Nat} {A:Option Addr} {t:TypeId} {xs:List Value} (hi:nth H i=some (.own t ver sz A n c xs)) (v:Value) (h:Is H (.own i ver) v):Is H (.val (.slice A n c)) v:=by
 simp only[Is] at h ⊢
 obtain⟨t',ver',sz',A1,n1,c1,xs1,hn,_,_,hv⟩:=h
 rw[hi] at hn
 injection hn with hn
 injection hn with e1 e2 e3 e4 e5 e6 e7
 subst e1; subst e2; subst e3; subst e4; subst e5; subst e6; subst e7
 exact hv rfl
def beZ (z:Sz) (next:Int) (fv:Sl):Sz:={ z with inn:=true,pc:=next,fv:=fv,fr:=z.rs,fp:=next,fl:=z.lf,fb:=z.bl,fe:=z.er }
theorem begin85 {E0:Env} {W:World} (gm:Nat) (A:Option Addr) (n c:Nat) (z:Sz) (ok:SzOk n z) (hn:n≤4096) (ho:z.ov=false) (e:Ef) (hW:HeapOk E0 (soF gm A n c z) W) :
  CallsV Tryz.prog 85 [.pointer (some ⟨gm,0,none⟩),e.val] W fun v W'=>v=.bool (!z.inn)∧(z.inn=true→HeapOk E0 (soF gm A n c z) W')∧(z.inn=false→∃ A' c',HeapOk E0 (soF gm A n c (beZ z e.next ⟨A',n,c'⟩)++[.own 23 0 1 A' n c' (usV z.ws)]) W'):=by
 obtain⟨b0,N,st,nt0,mk0⟩:=E0
 obtain⟨ek,en,eg,ev,ea⟩:=e
 refine zj0j (keep:=K85) (nt:=32) (svs:=[.ptr 0 0,efS ⟨ek,en,eg,ev,ea⟩]) Tryz.func85 x85 n85 (by simp) hW (zj4t z _) fun R hR=>?_
 have fin:∀ (W:World) (r:List SO),z.inn=true→HeapOk ⟨b0,N,st,32,[]⟩ (soF gm A n c z++r) W→R (.bool false) W:=fun W r h hW=>hR _ _ ⟨by rw[h]; rfl,fun _=>zj2e hW,fun k=>by rw[h] at k; cases k⟩
 have done:z.inn=false→∀ A2 c2,RetG (cxOf Tryz.prog Tryz.f85 K85 T85 R) ⟨b0,N,st,32,[]⟩ { F:=[(4,.bt)],H:=soF gm A n c (beZ z en ⟨A2,n,c2⟩)++[.own 23 0 1 A2 n c2 (usV z.ws)] }:=fun h A2 c2 =>
  zj01 (vs:=[.bool true]) r85 rfl rfl fun W hW=>hR _ _ ⟨by rw[h]; rfl,fun k=>(by rw[h] at k; cases k),fun _=>⟨A2,c2,HeapOk.env (E:=⟨b0,N,st,32,[]⟩) (E':=⟨b0,N,st,nt0,mk0⟩) rfl rfl rfl hW⟩⟩
 obtain⟨⟨cA,cN,cC⟩,ws,rs,pc,lf,bl,er,⟨fA,fN,fC⟩,fr,fp,fl,fb,fe,inn,ov⟩:=z
 obtain⟨h1,h2,h3⟩:=ok
 dsimp only at h1 h2 h3 ho
 obtain⟨a0,a1,a2,a3,a4,a5,a6,a7,rfl⟩:=ls8 h1
 obtain⟨q0,q1,q2,q3,q4,q5,q6,q7,rfl⟩:=ls8 h2
 subst ho; subst h3
 cases inn
 ·(refine Y_go 600 ?_; dsimp only[go_sem,efS,reduceAdd,soF,soC,Sl.v,rsC,bsv,Nat.reduceBEq])
  intro g
  refine zj6u true false rfl rfl (by rfl) ?_
  (refine Y_go 600 ?_; dsimp only[go_sem,soF,soC,Sl.v,rsC,bsv,Nat.reduceBEq,reduceAdd])
  refine zj1d (vs:=[.slice A ws.length c]) rfl (t:=23) (sz:=1) (n:=ws.length) (xs:=usV ws) (fun W hW=>clone54 A c ws W (hW.rowAt' (i:=1) rfl) (by omega)) fun A2 c2=>?_
  (refine Y_go 600 ?_; dsimp only[go_sem,reduceAdd,Nat.reduceBEq])
  exact fun a W rep=>done rfl A2 c2 a W (((rep.cellsTo 0 (l':=soC (.own 1 0) (beZ (Sz.mk ⟨cA,cN,cC⟩ ws [a0,a1,a2,a3,a4,a5,a6,a7] pc lf bl er ⟨fA,fN,fC⟩ [q0,q1,q2,q3,q4,q5,q6,q7] fp fl fb fe false false) en ⟨A2,ws.length,c2⟩)) rfl (LeV.is ⟨fun _ h=>h,fun _ h=>h,fun _ h=>h,fun _ h=>h,fun _ h=>h,fun _ h=>h,fun _ h=>h,fun _ h=>h,fun _ h=>h,fun _ h=>h,fun _ h=>h,fun _ h=>h,fun _ h=>h,fun _ h=>h,own_is rfl,fun _ h=>h,fun _ h=>h,fun _ h=>h,fun _ h=>h,fun _ h=>h,fun _ h=>h,fun _ h=>h,fun _ h=>h,fun _ h=>h,fun _ h=>h,fun _ h=>h,fun _ h=>h,fun _ h=>h,fun _ h=>h,trivial⟩)).pick [0,1,3] (by decide)).le (by (simp only[go_sem,renF,renV,renVL,renO,pickH,pickE,posOf,lk,Nat.reduceBEq,reduceLT,reduceAdd] <;> try simp)) (by simp only[soF,beZ,soF,soG,soC,rsC,efS,bsv,Sl.v,List.map_cons,List.map_nil,List.cons_append,List.nil_append]; (simp only[go_sem,renF,renV,renVL,renO,pickH,pickE,posOf,lk,Nat.reduceBEq,reduceLT,reduceAdd] <;> try simp)))
 ·(refine Y_go 600 ?_; dsimp only[go_sem,efS,reduceAdd,soF,soC,Sl.v,rsC,bsv,Nat.reduceBEq])
  intro g
  exact zj01 (vs:=[.bool false]) r85 rfl rfl fun W hW=>fin W [_] rfl hW
end Go.Proofs.YtgghmmjoplddbaaGreatDoor
