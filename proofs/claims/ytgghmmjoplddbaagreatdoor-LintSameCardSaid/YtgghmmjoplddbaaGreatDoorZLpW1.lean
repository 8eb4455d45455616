/- lint: bits, sets, reads, find. -/
import Derived.Test.YtgghmmjoplddbaaGreatDoorZBgIsa1
import Derived.Test.YtgghmmjoplddbaaGreatDoorZBgCodeLint
set_option linter.unusedSimpArgs false
set_option linter.unusedVariables false
set_option linter.unnecessarySimpa false
namespace Go.Proofs.YtgghmmjoplddbaaGreatDoor
open Go Go.Sx Go.Isa Go.Lint
open Nat (reduceAdd reduceLT)
set_option maxRecDepth 100000
theorem intsV_get' {l:List Int} {i:Nat} (h:i < l.length):(intsV l)[i]? = some (.int .i64 l[i]):=by simp[intsV,h]
theorem bits74 (A:Option Addr) (c:Nat) (l:List Int) (w:World) (hA:RowAt w A (intsV l)) (hl:l.length≤100) (hr:∀ r ∈ l,0≤r∧r < 8) :
  CallsV Tryz.prog 44 [.slice A l.length c] w fun v w'=>v=u8V (bitsL l)∧Fresh w w':=by
 refine zj05 (keep:=K44) (nt:=17) (svs:=[.val (.slice A l.length c)]) Tryz.func44 x44 n44 (by simp) (by simp[IsL,Is]) fun R hR=>?_
 (refine Y_go 600 ?_; dsimp only[go_sem,reduceAdd,Nat.reduceBEq])
 refine zj0m (α:=Nat) (fun i=>i≤l.length) (fun _=>⟨w,w.heap.size,[],17,[]⟩)
  (fun i=>{ F:=[(0,.val (.slice A l.length c)),(2,.val (.int .u8 (bitsL (l.take i)).toNat)),(5,.val (.slice A l.length c)),(6,.val (.int .i64 l.length)),(7,.val (.int .i64 i))],H:=[] }) (fun i=>l.length - i) (fun _=>rfl) ?start ?round
 case start =>
  intro a W rep
  refine⟨0,Nat.zero_le _,rep.le ?_ ?_⟩ <;> (simp only[go_sem,lk,Nat.reduceBEq,reduceLT,reduceAdd] <;> try simp)
  rfl
 case round =>
  intro i hi I hI
  have hi:i≤l.length:=hi
  (refine Y_go 600 ?_; dsimp only[go_sem,Nat.reduceBEq])
  refine⟨fun h=>?_,fun h=>?_⟩
  ·have hlt:i < l.length:=by have:=of_decide_eq_true h; omega
   have hri:=hr l[i] (List.getElem_mem hlt)
   refine⟨⟨by omega,by omega,hA.isSome (j:=i) (by simp[intsV]; omega)⟩,l[i],hA.cell (by rw[show (i:Int).toNat*1=i by omega]; exact intsV_get' hlt),_,shl8 hri.1 hri.2,_,or8 _ _,_,.add64 (by omega) (by omega),zj01 fun a W rep=>hI (i+1) (by show i+1≤_; omega) (by show l.length - (i+1) < l.length - i; omega) a W (rep.le ?_ ?_)⟩
   ·(simp only[go_sem,lk,Nat.reduceBEq,reduceLT,reduceAdd] <;> try simp)
    rw[List.take_add_one,List.getElem?_eq_getElem hlt]
    simp only[bitsL,Option.toList_some,List.foldl_append,List.foldl_cons,List.foldl_nil,BitVec.toNat_or]
   ·(simp only[go_sem,lk,Nat.reduceBEq,reduceLT,reduceAdd] <;> try simp)
  ·have hil:i=l.length:=by have:=of_decide_eq_false h; omega
   subst hil
   rw[List.take_length]
   exact zj03 (vs:=[_]) r44 rfl rfl fun W hW=>hR _ _ ⟨rfl,hW.fresh'⟩
theorem sets72 (x:In) (hx:legalB x=true) (w:World):CallsV Tryz.prog 42 [In.val x] w fun v w'=>v=u8V (setsB x)∧Fresh w w':=by
 obtain⟨ha,_,_⟩:=zj4w hx
 refine zj05 (keep:=K42) (nt:=15) (svs:=[.agg (In.sv x)]) Tryz.func42 x42 n42 (by simp) (by simp only[IsL]; exact⟨_,_,In.is _ x,rfl,rfl⟩) fun R hR=>?_
 (refine Y_go 600 ?_; dsimp only[go_sem,In.sv,reduceAdd,Nat.reduceBEq,Nat.reduceMul])
 intro g
 have no:¬ (2≤x.op∧x.op≤11)→∀ s,denAll s.H s.F [2]=some [.int .u8 0]→RetG (cxOf Tryz.prog Tryz.f42 K42 T42 R) ⟨w,w.heap.size,[],15,[]⟩ s:=fun h s hs =>
  zj03 (vs:=[.int .u8 0]) r42 rfl hs fun W hW=>hR _ _ ⟨by simp only[setsB,if_neg h]; rfl,hW.fresh'⟩
 refine⟨fun h1=>⟨fun h2 g2=>?_,fun h2=>no (by have:=of_decide_eq_false h2; omega) _ rfl⟩,fun h1=>no (by have:=of_decide_eq_false h1; omega) _ rfl⟩
 have h1:x.op≥2:=of_decide_eq_true h1
 have h2:=of_decide_eq_true h2
 refine zj00 (vs:=[.slice (some ⟨g2,0,none⟩) 1 1]) rfl (fun W hW=>bits74 _ 1 [x.a] W (hW.cellsAt (i:=1) rfl rfl) (by simp) (by simpa using ha (by omega))) fun v hv=>⟨.val (.int .u8 (bitsL [x.a]).toNat),by rw[hv]; simp[Is,u8V],?_⟩
 (refine Y_go 600 ?_; dsimp only[go_sem,Nat.reduceBEq])
 refine zj03 (vs:=[_]) r42 rfl rfl fun W hW=>hR _ _ ⟨?_,hW.fresh'⟩
 simp only[setsB,if_pos (show 2≤x.op∧x.op≤11 from ⟨h1,h2⟩),tupOf,u8V,bitsL,List.foldl_cons,List.foldl_nil]
 simp
theorem reads40 (x:In) (hx:legalB x=true) (w:World):CallsV Tryz.prog 20 [In.val x] w fun v w'=>v=u8V (readsB x)∧Fresh w w':=by
 obtain⟨ha,hb,hc⟩:=zj4w hx
 refine zj05 (keep:=K20) (nt:=51) (svs:=[.agg (In.sv x)]) Tryz.func20 x20 n20 (by simp) (by simp only[IsL]; exact⟨_,_,In.is _ x,rfl,rfl⟩) fun R hR=>?_
 (refine Y_go 600 ?_; dsimp only[go_sem,In.sv,reduceAdd,Nat.reduceBEq,Nat.reduceMul])
 have done:∀ s (b:Set8),denAll s.H s.F [2]=some [.int .u8 b.toNat]→b=readsB x→RetG (cxOf Tryz.prog Tryz.f20 K20 T20 R) ⟨w,w.heap.size,[],51,[]⟩ s:=fun s b hs hb =>
  zj03 (vs:=[.int .u8 b.toNat]) r20 rfl hs fun W hW=>hR _ _ ⟨by rw[hb]; rfl,hW.fresh'⟩
 refine fun g=>⟨fun h1 g2=>?_,fun h1=>⟨fun h2 g2=>?_,fun h2=>⟨fun h3=>⟨fun h4 g2=>?_,fun h4=>⟨fun h5 g2=>?_,fun h5=>⟨fun h6=>⟨fun h7 g2=>?_,fun h7=>?_⟩,fun h6=>?_⟩⟩⟩,fun h3=>⟨fun h5 g2=>?_,fun h5=>⟨fun h6=>⟨fun h7 g2=>?_,fun h7=>?_⟩,fun h6=>?_⟩⟩⟩⟩⟩
 all_goals simp only[beq_iff_eq,beq_eq_false_iff_ne,decide_eq_true_eq,decide_eq_false_iff_not,ge_iff_le,ne_eq] at *
 ·have qb:0≤x.b∧x.b < 8:=hb (by omega)
  refine zj00 (vs:=[.slice (some ⟨g2,0,none⟩) 1 1]) rfl (fun W hW=>bits74 _ 1 [x.b] W (hW.cellsAt (i:=1) rfl rfl) (by simp) (by simp only[List.mem_cons,List.not_mem_nil,or_false]; rintro r rfl <;> assumption)) fun v hv=>⟨.val (.int .u8 (bitsL [x.b]).toNat),by rw[hv]; simp[Is,u8V],?_⟩
  (refine Y_go 600 ?_; dsimp only[go_sem,Nat.reduceBEq])
  refine done _ _ rfl ?_
  simp only[readsB,bitsL,List.foldl_cons,List.foldl_nil,BitVec.zero_or]
  repeat' (split <;> first | rfl | (exfalso; omega) | skip)
 ·have qb:0≤x.b∧x.b < 8:=hb (by omega)
  refine zj00 (vs:=[.slice (some ⟨g2,0,none⟩) 1 1]) rfl (fun W hW=>bits74 _ 1 [x.b] W (hW.cellsAt (i:=1) rfl rfl) (by simp) (by simp only[List.mem_cons,List.not_mem_nil,or_false]; rintro r rfl <;> assumption)) fun v hv=>⟨.val (.int .u8 (bitsL [x.b]).toNat),by rw[hv]; simp[Is,u8V],?_⟩
  (refine Y_go 600 ?_; dsimp only[go_sem,Nat.reduceBEq])
  refine done _ _ rfl ?_
  simp only[readsB,bitsL,List.foldl_cons,List.foldl_nil,BitVec.zero_or]
  repeat' (split <;> first | rfl | (exfalso; omega) | skip)
 ·have qb:0≤x.b∧x.b < 8:=hb (by omega)
  have qc:0≤x.c∧x.c < 8:=hc (by omega)
  refine zj00 (vs:=[.slice (some ⟨g2,0,none⟩) 2 2]) rfl (fun W hW=>bits74 _ 2 [x.b,x.c] W (hW.cellsAt (i:=1) rfl rfl) (by simp) (by simp only[List.mem_cons,List.not_mem_nil,or_false]; rintro r (rfl | rfl) <;> assumption)) fun v hv=>⟨.val (.int .u8 (bitsL [x.b,x.c]).toNat),by rw[hv]; simp[Is,u8V],?_⟩
  (refine Y_go 600 ?_; dsimp only[go_sem,Nat.reduceBEq])
  refine done _ _ rfl ?_
  simp only[readsB,bitsL,List.foldl_cons,List.foldl_nil,BitVec.zero_or]
  repeat' (split <;> first | rfl | (exfalso; omega) | skip)
 ·have qa:0≤x.a∧x.a < 8:=ha (by omega)
  have qb:0≤x.b∧x.b < 8:=hb (by omega)
  refine zj00 (vs:=[.slice (some ⟨g2,0,none⟩) 2 2]) rfl (fun W hW=>bits74 _ 2 [x.a,x.b] W (hW.cellsAt (i:=1) rfl rfl) (by simp) (by simp only[List.mem_cons,List.not_mem_nil,or_false]; rintro r (rfl | rfl) <;> assumption)) fun v hv=>⟨.val (.int .u8 (bitsL [x.a,x.b]).toNat),by rw[hv]; simp[Is,u8V],?_⟩
  (refine Y_go 600 ?_; dsimp only[go_sem,Nat.reduceBEq])
  refine done _ _ rfl ?_
  simp only[readsB,bitsL,List.foldl_cons,List.foldl_nil,BitVec.zero_or]
  repeat' (split <;> first | rfl | (exfalso; omega) | skip)
 ·have qa:0≤x.a∧x.a < 8:=ha (by omega)
  have qb:0≤x.b∧x.b < 8:=hb (by omega)
  refine zj00 (vs:=[.slice (some ⟨g2,0,none⟩) 2 2]) rfl (fun W hW=>bits74 _ 2 [x.a,x.b] W (hW.cellsAt (i:=1) rfl rfl) (by simp) (by simp only[List.mem_cons,List.not_mem_nil,or_false]; rintro r (rfl | rfl) <;> assumption)) fun v hv=>⟨.val (.int .u8 (bitsL [x.a,x.b]).toNat),by rw[hv]; simp[Is,u8V],?_⟩
  (refine Y_go 600 ?_; dsimp only[go_sem,Nat.reduceBEq])
  refine done _ _ rfl ?_
  simp only[readsB,bitsL,List.foldl_cons,List.foldl_nil,BitVec.zero_or]
  repeat' (split <;> first | rfl | (exfalso; omega) | skip)
 ·refine done _ 0#8 rfl ?_
  simp only[readsB]
  repeat' (split <;> first | rfl | (exfalso; omega) | skip)
 ·refine done _ 0#8 rfl ?_
  simp only[readsB]
  repeat' (split <;> first | rfl | (exfalso; omega) | skip)
 ·have qa:0≤x.a∧x.a < 8:=ha (by omega)
  have qb:0≤x.b∧x.b < 8:=hb (by omega)
  refine zj00 (vs:=[.slice (some ⟨g2,0,none⟩) 2 2]) rfl (fun W hW=>bits74 _ 2 [x.a,x.b] W (hW.cellsAt (i:=1) rfl rfl) (by simp) (by simp only[List.mem_cons,List.not_mem_nil,or_false]; rintro r (rfl | rfl) <;> assumption)) fun v hv=>⟨.val (.int .u8 (bitsL [x.a,x.b]).toNat),by rw[hv]; simp[Is,u8V],?_⟩
  (refine Y_go 600 ?_; dsimp only[go_sem,Nat.reduceBEq])
  refine done _ _ rfl ?_
  simp only[readsB,bitsL,List.foldl_cons,List.foldl_nil,BitVec.zero_or]
  repeat' (split <;> first | rfl | (exfalso; omega) | skip)
 ·have qa:0≤x.a∧x.a < 8:=ha (by omega)
  have qb:0≤x.b∧x.b < 8:=hb (by omega)
  refine zj00 (vs:=[.slice (some ⟨g2,0,none⟩) 2 2]) rfl (fun W hW=>bits74 _ 2 [x.a,x.b] W (hW.cellsAt (i:=1) rfl rfl) (by simp) (by simp only[List.mem_cons,List.not_mem_nil,or_false]; rintro r (rfl | rfl) <;> assumption)) fun v hv=>⟨.val (.int .u8 (bitsL [x.a,x.b]).toNat),by rw[hv]; simp[Is,u8V],?_⟩
  (refine Y_go 600 ?_; dsimp only[go_sem,Nat.reduceBEq])
  refine done _ _ rfl ?_
  simp only[readsB,bitsL,List.foldl_cons,List.foldl_nil,BitVec.zero_or]
  repeat' (split <;> first | rfl | (exfalso; omega) | skip)
 ·refine done _ 0#8 rfl ?_
  simp only[readsB]
  repeat' (split <;> first | rfl | (exfalso; omega) | skip)
 ·refine done _ 0#8 rfl ?_
  simp only[readsB]
  repeat' (split <;> first | rfl | (exfalso; omega) | skip)
abbrev lkE (gm gl:Nat) (B:Option Addr) (bn bc:Nat) (m:Met) (k:Nat) (A:Option Addr) (n c:Nat) (xs:List Value):List SO:=[.map gm (metV m),.cells gl 64 [.val (.slice B bn bc),.mp 0,.own 2 k],.own 33 k 2 A n c xs]
theorem lkE_ver {E:Env} {gm gl:Nat} {B:Option Addr} {bn bc:Nat} {m:Met} {k:Nat} (k':Nat) {A:Option Addr} {n c:Nat} {xs:List Value} {W:World} (h:HeapOk E (lkE gm gl B bn bc m k A n c xs) W):HeapOk E (lkE gm gl B bn bc m k' A n c xs) W where
 keep:=h.keep
 floor:=h.floor
 ents i e hi:=by
  match i,hi with
  | 0,hi=>injection hi with hi; subst hi; exact h.ents 0 _ rfl
  | 1,hi =>
   injection hi with hi; subst hi
   obtain⟨cur,hc,hL⟩:=h.ents 1 _ rfl
   refine⟨cur,hc,?_⟩
   simp only[IsL,Is] at hL ⊢
   obtain⟨v0,r0,h0,⟨v1,r1,h1,⟨v2,r2,h2,h3,e2⟩,e1⟩,e0⟩:=hL
   refine⟨v0,r0,h0,⟨v1,r1,?_,⟨v2,r2,?_,h3,e2⟩,e1⟩,e0⟩
   ·obtain⟨g,hg,e⟩:=h1; exact⟨g,hg,e⟩
   ·obtain⟨t,ver',sz,A1,n1,c1,xs1,hn,hle,hsh,hv⟩:=h2
    injection hn with hn; injection hn with f1 f2 f3 f4 f5 f6 f7
    subst f2
    exact⟨_,_,_,_,_,_,_,rfl,Nat.le_refl _,hsh,fun _=>by rw[hv rfl,f4,f5,f6]⟩
  | 2,hi=>injection hi with hi; subst hi; exact h.ents 2 (.own 33 k 2 A n c xs) rfl
  | i+3,hi=>simp[nth] at hi
 fresh i e g hi hg:=by
  match i,hi with
  | 0,hi=>injection hi with hi; subst hi; exact h.fresh 0 _ g rfl hg
  | 1,hi=>injection hi with hi; subst hi; exact h.fresh 1 _ g rfl hg
  | 2,hi=>injection hi with hi; subst hi; exact h.fresh 2 (.own 33 k 2 A n c xs) g rfl hg
  | i+3,hi=>simp[nth] at hi
 dist i j e e' g hij hi hj hg:=by
  have key:∀ i e,nth (lkE gm gl B bn bc m k' A n c xs) i=some e→∃ e0,nth (lkE gm gl B bn bc m k A n c xs) i=some e0∧e0.fp=e.fp:=by
   intro i e hi
   match i,hi with
   | 0,hi=>injection hi with hi; subst hi; exact⟨_,rfl,rfl⟩
   | 1,hi=>injection hi with hi; subst hi; exact⟨_,rfl,rfl⟩
   | 2,hi=>injection hi with hi; subst hi; exact⟨_,rfl,rfl⟩
   | i+3,hi=>simp[nth] at hi
  obtain⟨e0,h0,f0⟩:=key i e hi
  obtain⟨e1,h1,f1⟩:=key j e' hj
  rw[← f1]
  exact h.dist i j e0 e1 g hij h0 h1 (by rw[f0]; exact hg)
theorem find41_0 {b:World} {N:Nat} {st:List Nat} {nt0:Nat} {mk0:List Nat} (gm gl:Nat) (B:Option Addr) (bn bc:Nat) (m:Met) (A:Option Addr) (n c:Nat) (xs:List Value) (hn:n≤1000000000) (cd p:Int) (W:World) (hW:HeapOk ⟨b,N,st,nt0,mk0⟩ (lkE gm gl B bn bc m 0 A n c xs) W) :
  CallsV Tryz.prog 21 [.pointer (some ⟨gl,0,none⟩),.int .i64 cd,.int .i64 p] W fun v W'=>v=.tuple #[]∧∃ A' c',HeapOk ⟨b,N,st,nt0,mk0⟩ (lkE gm gl B bn bc m 1 A' (n+1) c' (xs++[.int .i64 cd,.int .i64 p])) W':=by
 refine zj2z (keep:=K21) (nt:=18) (svs:=[.ptr 1 0,.val (.int .i64 cd),.val (.int .i64 p)]) Tryz.func21 x21 n21 (by simp) hW (by simp[IsL,Is,blk,nth]) fun R hR=>?_
 (refine Y_go 600 ?_; dsimp only[go_sem,reduceAdd,Nat.reduceBEq,Nat.reduceMul])
 refine fun g=>⟨⟨by simp only[maxLen]; omega,by omega⟩,fun A' c'=>?_⟩
 refine zj3t (vs:=[]) r21 rfl rfl fun W' hW'=>hR _ _ ⟨rfl,A',c',?_⟩
 have h2:HeapOk ⟨b,N,st,nt0,mk0⟩ (lkE gm gl B bn bc m 1 A' (n+1) c' (xs++[.int .i64 cd,.int .i64 p])++[.cells g 33 [.val (.int .i64 cd),.val (.int .i64 p)]]) W':=HeapOk.env (E:=⟨b,N,st,18,[]⟩) (E':=⟨b,N,st,nt0,mk0⟩) rfl rfl rfl hW'
 exact h2.pre (fun e he=>List.all_eq_true.1 (show List.all (lkE gm gl B bn bc m 1 A' (n+1) c' (xs++[.int .i64 cd,.int .i64 p])) (scpO 3)=true from rfl) e he)
theorem lkE_ext {gm gl:Nat} {B:Option Addr} {bn bc:Nat} {m m':Met} {k k':Nat} {A A':Option Addr} {n n' c c':Nat} {xs xs':List Value} (h:k < k'):HExt (lkE gm gl B bn bc m k A n c xs) (lkE gm gl B bn bc m' k' A' n' c' xs') :=
 zj0g ⟨.inl ⟨_,rfl,rfl⟩,.inl ⟨_,rfl,rfl⟩,.inr (.inr h),trivial⟩
theorem zj0a {C:Cx} (hC:C.P=Tryz.prog) {E:Env} {gm gl:Nat} {B:Option Addr} {bn bc:Nat} {m:Met} {k:Nat} {A:Option Addr} {n c:Nat} {xs:List Value} {cd p:Int} {d:Option Nat} {args:List Operand} {l:List XS} {kk:List KI} {F:List (Nat × SV)} {r:List SO} (hn:n≤1000000000)
  (hargs:denL (lkE gm gl B bn bc m k A n c xs++r) (evL F args)=some [.pointer (some ⟨gl,0,none⟩),.int .i64 cd,.int .i64 p])
  (next:∀ A' c',G C E (.ops l :: kk) { F:=putF F d (.tup []),H:=lkE gm gl B bn bc m (k+1) A' (n+1) c' (xs++[.int .i64 cd,.int .i64 p])++r }) :
  G C E (.ops ({ dst:=d,guard:=none,i:=.call 21 args } :: l) :: kk) { F:=F,H:=lkE gm gl B bn bc m k A n c xs++r }:=by
 refine zj44 (lkE gm gl B bn bc m k A n c xs) r (fun v H1'=>v=.tuple #[]∧∃ A' c',H1'=lkE gm gl B bn bc m (k+1) A' (n+1) c' (xs++[.int .i64 cd,.int .i64 p])) rfl hargs (fun W _ hW=>?_) ?_
 ·rw[hC]
  refine (find41_0 gm gl B bn bc m A n c xs hn cd p W (lkE_ver 0 hW)).mono fun v W' ⟨h1,A',c',h2⟩=>⟨_,⟨h1,A',c',rfl⟩,lkE_ext (by omega),rfl,lkE_ver (k+1) h2⟩
 ·rintro v H1' ⟨rfl,A',c',rfl⟩
  exact⟨.tup [],by simp[Is,IsL],next A' c'⟩
theorem on73 (L B:Option Addr) (bn bc:Nat) (mv fv:Value) (l:List In) (s:Spot) (x:In) (w:World) (hL:RowAt w L [.slice B bn bc,mv,fv]) (hB:RowAt w B (cellsI l)) (hbn:bn=l.length) (h0:0≤s.1) (hx:l[s.1.toNat]? = some x) :
  CallsV Tryz.prog 43 [.pointer L,spotV s] w fun v w'=>∃ g1 g2 g3,v=.func (.func 69) #[] #[.pointer (some ⟨g1,0,none⟩),.pointer (some ⟨g2,0,none⟩),.pointer (some ⟨g3,0,none⟩)]∧(w.heap.size≤g1∧w.heap.size≤g2∧w.heap.size≤g3)∧(g1 ≠ g2∧g1 ≠ g3∧g2 ≠ g3) ∧
   (w'.heap[g1]? = some (.cells #[.int .i64 s.1,.bool s.2] 68 (0,0))∧w'.heap[g2]? = some (.cells x.cells.toArray 47 (0,0))∧w'.heap[g3]? = some (.cells #[.pointer L] 61 (0,0)))∧Fresh w w':=by
 obtain⟨hlt,hx⟩:=List.getElem?_eq_some_iff.1 hx
 subst hbn
 refine zj05 (keep:=K43) (nt:=15) (svs:=[.adr L 0,.agg [.val (.int .i64 s.1),.val (.bool s.2)]]) Tryz.func43 x43 n43 (by simp) ?_ fun R hR=>?_
 ·have hs:L.isSome=true:=hL.isSome (j:=0) (by simp)
  cases L <;> simp[IsL,Is,Addr.add,spotV] at hs ⊢
 (refine Y_go 600 ?_; dsimp only[go_sem,Nat.reduceAdd,Nat.reduceBEq])
 have hs:L.isSome=true:=hL.isSome (j:=0) (by simp)
 refine fun g3 g1=>⟨hs,hs,_,_,_,hL.cell (j:=0) rfl,⟨h0,by omega,someI hB hlt⟩,_,cellI hB hlt (k:=0) rfl,_,cellI hB hlt (k:=1) rfl,_,cellI hB hlt (k:=2) rfl,_,cellI hB hlt (k:=3) rfl,_,cellI hB hlt (k:=4) rfl,fun g2=>?_⟩
 refine zj03 (vs:=[.func (.func 69) #[] #[.pointer (some ⟨g1,0,none⟩),.pointer (some ⟨g2,0,none⟩),.pointer (some ⟨g3,0,none⟩)]]) r43 rfl rfl fun W hW=>hR _ _ ⟨g1,g2,g3,rfl,⟨?_,?_,?_⟩,⟨?_,?_,?_⟩,⟨?_,?_,?_⟩,hW.fresh'⟩
 ·exact hW.newer (i:=1) rfl rfl
 ·exact hW.newer (i:=2) rfl rfl
 ·exact hW.newer (i:=0) rfl rfl
 ·intro e; subst e; exact hW.dist 1 2 _ _ g1 (by decide) rfl rfl rfl rfl
 ·intro e; subst e; exact hW.dist 1 0 _ _ g1 (by decide) rfl rfl rfl rfl
 ·intro e; subst e; exact hW.dist 2 0 _ _ g2 (by decide) rfl rfl rfl rfl
 ·obtain⟨c,hc,hL⟩:=hW.ents 1 _ rfl
  have:=zj0r _ (us:=[.int .i64 s.1,.bool s.2]) rfl hL
  have e:c=#[.int .i64 s.1,.bool s.2]:=by rw[← Array.toList_inj]; exact this
  rw[e] at hc; exact hc
 ·obtain⟨c,hc,hL⟩:=hW.ents 2 _ rfl
  have:=zj0r _ (us:=(l[s.1.toNat]).cells) rfl hL
  have e:c=(l[s.1.toNat]).cells.toArray:=by rw[← Array.toList_inj]; exact this
  rw[e] at hc; rw[← hx]; exact hc
 ·obtain⟨c,hc,hL⟩:=hW.ents 0 _ rfl
  have:=zj0r _ (us:=[.pointer (L.map (·.add 0))]) rfl hL
  have e2:L.map (·.add 0)=L:=by cases L <;> simp[Addr.add]
  rw[e2] at this
  have e:c=#[.pointer L]:=by rw[← Array.toList_inj]; exact this
  rw[e] at hc; exact hc
end Go.Proofs.YtgghmmjoplddbaaGreatDoor
