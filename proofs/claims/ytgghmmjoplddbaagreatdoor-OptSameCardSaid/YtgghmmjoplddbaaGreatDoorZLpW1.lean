/- lint: bits, sets, reads, find. -/
import Derived.Test.YtgghmmjoplddbaaGreatDoorZBgIsa1
import Derived.Test.YtgghmmjoplddbaaGreatDoorZBgCodeLint
set_option linter.unusedSimpArgs false
set_option linter.unusedVariables false
set_option linter.unnecessarySimpa false
namespace Go.Proofs.YtgghmmjoplddbaaGreatDoor
open Go Go.Sx Go.Isa Go.Lint
open Nat (reduceAdd reduceLT)
set_option maxRecDepth 100000
theorem intsV_get' {l:List Int} {i:Nat} (h:i < l.length):(intsV l)[i]? = some (.int .i64 l[i]):=by simp[intsV,h]
theorem bits74 (A:Option Addr) (c:Nat) (l:List Int) (w:World) (hA:RowAt w A (intsV l)) (hl:l.length≤100) (hr:∀ r ∈ l,0≤r∧r < 8) :
  CallsV Tryz.prog 44 [.slice A l.length c] w fun v w'=>v=u8V (bitsL l)∧Fresh w w':=by
 refine zj03 (keep:=K44) (nt:=17) (svs:=[.val (.slice A l.length c)]) Tryz.func44 x44 n44 (by simp) (by simp[IsL,Is]) fun R hR=>?_
 (refine Y_go 600 ?_; dsimp only[go_sem,reduceAdd,Nat.reduceBEq])
 refine zj08 (α:=Nat) (fun i=>i≤l.length) (fun _=>⟨w,w.heap.size,[],17,[]⟩)
  (fun i=>{ F:=[(0,.val (.slice A l.length c)),(2,.val (.int .u8 (bitsL (l.take i)).toNat)),(5,.val (.slice A l.length c)),(6,.val (.int .i64 l.length)),(7,.val (.int .i64 i))],H:=[] }) (fun i=>l.length - i) (fun _=>rfl) ?start ?round
 case start =>
  intro a W rep
  refine⟨0,Nat.zero_le _,rep.le ?_ ?_⟩ <;> (simp only[go_sem,lk,Nat.reduceBEq,reduceLT,reduceAdd] <;> try simp)
  rfl
 case round =>
  intro i hi I hI
  have hi:i≤l.length:=hi
  (refine Y_go 600 ?_; dsimp only[go_sem,Nat.reduceBEq])
  refine⟨fun h=>?_,fun h=>?_⟩
  ·have hlt:i < l.length:=by have:=of_decide_eq_true h; omega
   have hri:=hr l[i] (List.getElem_mem hlt)
   refine⟨⟨by omega,by omega,hA.isSome (j:=i) (by simp[intsV]; omega)⟩,l[i],hA.cell (by rw[show (i:Int).toNat*1=i by omega]; exact intsV_get' hlt),_,shl8 hri.1 hri.2,_,or8 _ _,_,.add64 (by omega) (by omega),zj02 fun a W rep=>hI (i+1) (by show i+1≤_; omega) (by show l.length - (i+1) < l.length - i; omega) a W (rep.le ?_ ?_)⟩
   ·(simp only[go_sem,lk,Nat.reduceBEq,reduceLT,reduceAdd] <;> try simp)
    rw[List.take_add_one,List.getElem?_eq_getElem hlt]
    simp only[bitsL,Option.toList_some,List.foldl_append,List.foldl_cons,List.foldl_nil,BitVec.toNat_or]
   ·(simp only[go_sem,lk,Nat.reduceBEq,reduceLT,reduceAdd] <;> try simp)
  ·have hil:i=l.length:=by have:=of_decide_eq_false h; omega
   subst hil
   rw[List.take_length]
   exact zj01 (vs:=[_]) r44 rfl rfl fun W hW=>hR _ _ ⟨rfl,hW.fresh'⟩
theorem sets72 (x:In) (hx:legalB x=true) (w:World):CallsV Tryz.prog 42 [In.val x] w fun v w'=>v=u8V (setsB x)∧Fresh w w':=by
 obtain⟨ha,_,_⟩:=zj41 hx
 refine zj03 (keep:=K42) (nt:=15) (svs:=[.agg (In.sv x)]) Tryz.func42 x42 n42 (by simp) (by simp only[IsL]; exact⟨_,_,In.is _ x,rfl,rfl⟩) fun R hR=>?_
 (refine Y_go 600 ?_; dsimp only[go_sem,In.sv,reduceAdd,Nat.reduceBEq,Nat.reduceMul])
 intro g
 have no:¬ (2≤x.op∧x.op≤11)→∀ s,denAll s.H s.F [2]=some [.int .u8 0]→RetG (cxOf Tryz.prog Tryz.f42 K42 T42 R) ⟨w,w.heap.size,[],15,[]⟩ s:=fun h s hs =>
  zj01 (vs:=[.int .u8 0]) r42 rfl hs fun W hW=>hR _ _ ⟨by simp only[setsB,if_neg h]; rfl,hW.fresh'⟩
 refine⟨fun h1=>⟨fun h2 g2=>?_,fun h2=>no (by have:=of_decide_eq_false h2; omega) _ rfl⟩,fun h1=>no (by have:=of_decide_eq_false h1; omega) _ rfl⟩
 have h1:x.op≥2:=of_decide_eq_true h1
 have h2:=of_decide_eq_true h2
 refine zj00 (vs:=[.slice (some ⟨g2,0,none⟩) 1 1]) rfl (fun W hW=>bits74 _ 1 [x.a] W (hW.cellsAt (i:=1) rfl rfl) (by simp) (by simpa using ha (by omega))) fun v hv=>⟨.val (.int .u8 (bitsL [x.a]).toNat),by rw[hv]; simp[Is,u8V],?_⟩
 (refine Y_go 600 ?_; dsimp only[go_sem,Nat.reduceBEq])
 refine zj01 (vs:=[_]) r42 rfl rfl fun W hW=>hR _ _ ⟨?_,hW.fresh'⟩
 simp only[setsB,if_pos (show 2≤x.op∧x.op≤11 from ⟨h1,h2⟩),tupOf,u8V,bitsL,List.foldl_cons,List.foldl_nil]
 simp
theorem reads40 (x:In) (hx:legalB x=true) (w:World):CallsV Tryz.prog 20 [In.val x] w fun v w'=>v=u8V (readsB x)∧Fresh w w':=by
 obtain⟨ha,hb,hc⟩:=zj41 hx
 refine zj03 (keep:=K20) (nt:=51) (svs:=[.agg (In.sv x)]) Tryz.func20 x20 n20 (by simp) (by simp only[IsL]; exact⟨_,_,In.is _ x,rfl,rfl⟩) fun R hR=>?_
 (refine Y_go 600 ?_; dsimp only[go_sem,In.sv,reduceAdd,Nat.reduceBEq,Nat.reduceMul])
 have done:∀ s (b:Set8),denAll s.H s.F [2]=some [.int .u8 b.toNat]→b=readsB x→RetG (cxOf Tryz.prog Tryz.f20 K20 T20 R) ⟨w,w.heap.size,[],51,[]⟩ s:=fun s b hs hb =>
  zj01 (vs:=[.int .u8 b.toNat]) r20 rfl hs fun W hW=>hR _ _ ⟨by rw[hb]; rfl,hW.fresh'⟩
 refine fun g=>⟨fun h1 g2=>?_,fun h1=>⟨fun h2 g2=>?_,fun h2=>⟨fun h3=>⟨fun h4 g2=>?_,fun h4=>⟨fun h5 g2=>?_,fun h5=>⟨fun h6=>⟨fun h7 g2=>?_,fun h7=>?_⟩,fun h6=>?_⟩⟩⟩,fun h3=>⟨fun h5 g2=>?_,fun h5=>⟨fun h6=>⟨fun h7 g2=>?_,fun h7=>?_⟩,fun h6=>?_⟩⟩⟩⟩⟩
 all_goals simp only[beq_iff_eq,beq_eq_false_iff_ne,decide_eq_true_eq,decide_eq_false_iff_not,ge_iff_le,ne_eq] at *
 ·have qb:0≤x.b∧x.b < 8:=hb (by omega)
  refine zj00 (vs:=[.slice (some ⟨g2,0,none⟩) 1 1]) rfl (fun W hW=>bits74 _ 1 [x.b] W (hW.cellsAt (i:=1) rfl rfl) (by simp) (by simp only[List.mem_cons,List.not_mem_nil,or_false]; rintro r rfl <;> assumption)) fun v hv=>⟨.val (.int .u8 (bitsL [x.b]).toNat),by rw[hv]; simp[Is,u8V],?_⟩
  (refine Y_go 600 ?_; dsimp only[go_sem,Nat.reduceBEq])
  refine done _ _ rfl ?_
  simp only[readsB,bitsL,List.foldl_cons,List.foldl_nil,BitVec.zero_or]
  repeat' (split <;> first | rfl | (exfalso; omega) | skip)
 ·have qb:0≤x.b∧x.b < 8:=hb (by omega)
  refine zj00 (vs:=[.slice (some ⟨g2,0,none⟩) 1 1]) rfl (fun W hW=>bits74 _ 1 [x.b] W (hW.cellsAt (i:=1) rfl rfl) (by simp) (by simp only[List.mem_cons,List.not_mem_nil,or_false]; rintro r rfl <;> assumption)) fun v hv=>⟨.val (.int .u8 (bitsL [x.b]).toNat),by rw[hv]; simp[Is,u8V],?_⟩
  (refine Y_go 600 ?_; dsimp only[go_sem,Nat.reduceBEq])
  refine done _ _ rfl ?_
  simp only[readsB,bitsL,List.foldl_cons,List.foldl_nil,BitVec.zero_or]
  repeat' (split <;> first | rfl | (exfalso; omega) | skip)
 ·have qb:0≤x.b∧x.b < 8:=hb (by omega)
  have qc:0≤x.c∧x.c < 8:=hc (by omega)
  refine zj00 (vs:=[.slice (some ⟨g2,0,none⟩) 2 2]) rfl (fun W hW=>bits74 _ 2 [x.b,x.c] W (hW.cellsAt (i:=1) rfl rfl) (by simp) (by simp only[List.mem_cons,List.not_mem_nil,or_false]; rintro r (rfl | rfl) <;> assumption)) fun v hv=>⟨.val (.int .u8 (bitsL [x.b,x.c]).toNat),by rw[hv]; simp[Is,u8V],?_⟩
  (refine Y_go 600 ?_; dsimp only[go_sem,Nat.reduceBEq])
  refine done _ _ rfl ?_
  simp only[readsB,bitsL,List.foldl_cons,List.foldl_nil,BitVec.zero_or]
  repeat' (split <;> first | rfl | (exfalso; omega) | skip)
 ·have qa:0≤x.a∧x.a < 8:=ha (by omega)
  have qb:0≤x.b∧x.b < 8:=hb (by omega)
  refine zj00 (vs:=[.slice (some ⟨g2,0,none⟩) 2 2]) rfl (fun W hW=>bits74 _ 2 [x.a,x.b] W (hW.cellsAt (i:=1) rfl rfl) (by simp) (by simp only[List.mem_cons,List.not_mem_nil,or_false]; rintro r (rfl | rfl) <;> assumption)) fun v hv=>⟨.val (.int .u8 (bitsL [x.a,x.b]).toNat),by rw[hv]; simp[Is,u8V],?_⟩
  (refine Y_go 600 ?_; dsimp only[go_sem,Nat.reduceBEq])
  refine done _ _ rfl ?_
  simp only[readsB,bitsL,List.foldl_cons,List.foldl_nil,BitVec.zero_or]
  repeat' (split <;> first | rfl | (exfalso; omega) | skip)
 ·have qa:0≤x.a∧x.a < 8:=ha (by omega)
  have qb:0≤x.b∧x.b < 8:=hb (by omega)
  refine zj00 (vs:=[.slice (some ⟨g2,0,none⟩) 2 2]) rfl (fun W hW=>bits74 _ 2 [x.a,x.b] W (hW.cellsAt (i:=1) rfl rfl) (by simp) (by simp only[List.mem_cons,List.not_mem_nil,or_false]; rintro r (rfl | rfl) <;> assumption)) fun v hv=>⟨.val (.int .u8 (bitsL [x.a,x.b]).toNat),by rw[hv]; simp[Is,u8V],?_⟩
  (refine Y_go 600 ?_; dsimp only[go_sem,Nat.reduceBEq])
  refine done _ _ rfl ?_
  simp only[readsB,bitsL,List.foldl_cons,List.foldl_nil,BitVec.zero_or]
  repeat' (split <;> first | rfl | (exfalso; omega) | skip)
 ·refine done _ 0#8 rfl ?_
  simp only[readsB]
  repeat' (split <;> first | rfl | (exfalso; omega) | skip)
 ·refine done _ 0#8 rfl ?_
  simp only[readsB]
  repeat' (split <;> first | rfl | (exfalso; omega) | skip)
 ·have qa:0≤x.a∧x.a < 8:=ha (by omega)
  have qb:0≤x.b∧x.b < 8:=hb (by omega)
  refine zj00 (vs:=[.slice (some ⟨g2,0,none⟩) 2 2]) rfl (fun W hW=>bits74 _ 2 [x.a,x.b] W (hW.cellsAt (i:=1) rfl rfl) (by simp) (by simp only[List.mem_cons,List.not_mem_nil,or_false]; rintro r (rfl | rfl) <;> assumption)) fun v hv=>⟨.val (.int .u8 (bitsL [x.a,x.b]).toNat),by rw[hv]; simp[Is,u8V],?_⟩
  (refine Y_go 600 ?_; dsimp only[go_sem,Nat.reduceBEq])
  refine done _ _ rfl ?_
  simp only[readsB,bitsL,List.foldl_cons,List.foldl_nil,BitVec.zero_or]
  repeat' (split <;> first | rfl | (exfalso; omega) | skip)
 ·have qa:0≤x.a∧x.a < 8:=ha (by omega)
  have qb:0≤x.b∧x.b < 8:=hb (by omega)
  refine zj00 (vs:=[.slice (some ⟨g2,0,none⟩) 2 2]) rfl (fun W hW=>bits74 _ 2 [x.a,x.b] W (hW.cellsAt (i:=1) rfl rfl) (by simp) (by simp only[List.mem_cons,List.not_mem_nil,or_false]; rintro r (rfl | rfl) <;> assumption)) fun v hv=>⟨.val (.int .u8 (bitsL [x.a,x.b]).toNat),by rw[hv]; simp[Is,u8V],?_⟩
  (refine Y_go 600 ?_; dsimp only[go_sem,Nat.reduceBEq])
  refine done _ _ rfl ?_
  simp only[readsB,bitsL,List.foldl_cons,List.foldl_nil,BitVec.zero_or]
  repeat' (split <;> first | rfl | (exfalso; omega) | skip)
 ·refine done _ 0#8 rfl ?_
  simp only[readsB]
  repeat' (split <;> first | rfl | (exfalso; omega) | skip)
 ·refine done _ 0#8 rfl ?_
  simp only[readsB]
  repeat' (split <;> first | rfl | (exfalso; omega) | skip)
abbrev lkE (gm gl:Nat) (B:Option Addr) (bn bc:Nat) (m:Met) (k:Nat) (A:Option Addr) (n c:Nat) (xs:List Value):List SO:=[.map gm (metV m),.cells gl 64 [.val (.slice B bn bc),.mp 0,.own 2 k],.own 33 k 2 A n c xs]
theorem lkE_ver {E:Env} {gm gl:Nat} {B:Option Addr} {bn bc:Nat} {m:Met} {k:Nat} (k':Nat) {A:Option Addr} {n c:Nat} {xs:List Value} {W:World} (h:HeapOk E (lkE gm gl B bn bc m k A n c xs) W):HeapOk E (lkE gm gl B bn bc m k' A n c xs) W where
 keep:=h.keep
 floor:=h.floor
 ents i e hi:=by
  match i,hi with
  | 0,hi=>injection hi with hi; subst hi; exact h.ents 0 _ rfl
  | 1,hi =>
   injection hi with hi; subst hi
   obtain⟨cur,hc,hL⟩:=h.ents 1 _ rfl
   refine⟨cur,hc,?_⟩
   simp only[IsL,Is] at hL ⊢
   obtain⟨v0,r0,h0,⟨v1,r1,h1,⟨v2,r2,h2,h3,e2⟩,e1⟩,e0⟩:=hL
   refine⟨v0,r0,h0,⟨v1,r1,?_,⟨v2,r2,?_,h3,e2⟩,e1⟩,e0⟩
   ·obtain⟨g,hg,e⟩:=h1; exact⟨g,hg,e⟩
   ·obtain⟨t,ver',sz,A1,n1,c1,xs1,hn,hle,hsh,hv⟩:=h2
    injection hn with hn; injection hn with f1 f2 f3 f4 f5 f6 f7
    subst f2
    exact⟨_,_,_,_,_,_,_,rfl,Nat.le_refl _,hsh,fun _=>by rw[hv rfl,f4,f5,f6]⟩
  | 2,hi=>injection hi with hi; subst hi; exact h.ents 2 (.own 33 k 2 A n c xs) rfl
  | i+3,hi=>simp[nth] at hi
 fresh i e g hi hg:=by
  match i,hi with
  | 0,hi=>injection hi with hi; subst hi; exact h.fresh 0 _ g rfl hg
  | 1,hi=>injection hi with hi; subst hi; exact h.fresh 1 _ g rfl hg
  | 2,hi=>injection hi with hi; subst hi; exact h.fresh 2 (.own 33 k 2 A n c xs) g rfl hg
  | i+3,hi=>simp[nth] at hi
 dist i j e e' g hij hi hj hg:=by
  have key:∀ i e,nth (lkE gm gl B bn bc m k' A n c xs) i=some e→∃ e0,nth (lkE gm gl B bn bc m k A n c xs) i=some e0∧e0.fp=e.fp:=by
   intro i e hi
   match i,hi with
   | 0,hi=>injection hi with hi; subst hi; exact⟨_,rfl,rfl⟩
   | 1,hi=>injection hi with hi; subst hi; exact⟨_,rfl,rfl⟩
   | 2,hi=>injection hi with hi; subst hi; exact⟨_,rfl,rfl⟩
   | i+3,hi=>simp[nth] at hi
  obtain⟨e0,h0,f0⟩:=key i e hi
  obtain⟨e1,h1,f1⟩:=key j e' hj
  rw[← f1]
  exact h.dist i j e0 e1 g hij h0 h1 (by rw[f0]; exact hg)
theorem find41_0 {b:World} {N:Nat} {st:List Nat} {nt0:Nat} {mk0:List Nat} (gm gl:Nat) (B:Option Addr) (bn bc:Nat) (m:Met) (A:Option Addr) (n c:Nat) (xs:List Value) (hn:n≤1000000000) (cd p:Int) (W:World) (hW:HeapOk ⟨b,N,st,nt0,mk0⟩ (lkE gm gl B bn bc m 0 A n c xs) W) :
  CallsV Tryz.prog 21 [.pointer (some ⟨gl,0,none⟩),.int .i64 cd,.int .i64 p] W fun v W'=>v=.tuple #[]∧∃ A' c',HeapOk ⟨b,N,st,nt0,mk0⟩ (lkE gm gl B bn bc m 1 A' (n+1) c' (xs++[.int .i64 cd,.int .i64 p])) W':=by
 refine zj0j (keep:=K21) (nt:=18) (svs:=[.ptr 1 0,.val (.int .i64 cd),.val (.int .i64 p)]) Tryz.func21 x21 n21 (by simp) hW (by simp[IsL,Is,blk,nth]) fun R hR=>?_
 (refine Y_go 600 ?_; dsimp only[go_sem,reduceAdd,Nat.reduceBEq,Nat.reduceMul])
 refine fun g=>⟨⟨by simp only[maxLen]; omega,by omega⟩,fun A' c'=>?_⟩
 refine zj0u (vs:=[]) r21 rfl rfl fun W' hW'=>hR _ _ ⟨rfl,A',c',?_⟩
 have h2:HeapOk ⟨b,N,st,nt0,mk0⟩ (lkE gm gl B bn bc m 1 A' (n+1) c' (xs++[.int .i64 cd,.int .i64 p])++[.cells g 33 [.val (.int .i64 cd),.val (.int .i64 p)]]) W':=HeapOk.env (E:=⟨b,N,st,18,[]⟩) (E':=⟨b,N,st,nt0,mk0⟩) rfl rfl rfl hW'
 exact h2.pre (fun e he=>List.all_eq_true.1 (show List.all (lkE gm gl B bn bc m 1 A' (n+1) c' (xs++[.int .i64 cd,.int .i64 p])) (scpO 3)=true from rfl) e he)
theorem lkE_ext {gm gl:Nat} {B:Option Addr} {bn bc:Nat} {m m':Met} {k k':Nat} {A A':Option Addr} {n n' c c':Nat} {xs xs':List Value} (h:k < k'):HExt (lkE gm gl B bn bc m k A n c xs) (lkE gm gl B bn bc m' k' A' n' c' xs') :=
 zj05 ⟨.inl ⟨_,rfl,rfl⟩,.inl ⟨_,rfl,rfl⟩,.inr (.inr h),trivial⟩
theorem zj0h {C:Cx} (hC:C.P=Tryz.prog) {E:Env} {gm gl:Nat} {B:Option Addr} {bn bc:Nat} {m:Met} {k:Nat} {A:Option Addr} {n c:Nat} {xs:List Value} {cd p:Int} {d:Option Nat} {args:List Operand} {l:List XS} {kk:List KI} {F:List (Nat × SV)} {r:List SO} (hn:n≤1000000000)
  (hargs:denL (lkE gm gl B bn bc m k A n c xs++r) (evL F args)=some [.pointer (some ⟨gl,0,none⟩),.int .i64 cd,.int .i64 p])
  (next:∀ A' c',G C E (.ops l :: kk) { F:=putF F d (.tup []),H:=lkE gm gl B bn bc m (k+1) A' (n+1) c' (xs++[.int .i64 cd,.int .i64 p])++r }) :
  G C E (.ops ({ dst:=d,guard:=none,i:=.call 21 args } :: l) :: kk) { F:=F,H:=lkE gm gl B bn bc m k A n c xs++r }:=by
 refine zj2s (lkE gm gl B bn bc m k A n c xs) r (fun v H1'=>v=.tuple #[]∧∃ A' c',H1'=lkE gm gl B bn bc m (k+1) A' (n+1) c' (xs++[.int .i64 cd,.int .i64 p])) rfl hargs (fun W _ hW=>?_) ?_
 ·rw[hC]
  refine (find41_0 gm gl B bn bc m A n c xs hn cd p W (lkE_ver 0 hW)).mono fun v W' ⟨h1,A',c',h2⟩=>⟨_,⟨h1,A',c',rfl⟩,lkE_ext (by omega),rfl,lkE_ver (k+1) h2⟩
 ·rintro v H1' ⟨rfl,A',c',rfl⟩
  exact⟨.tup [],by simp[Is,IsL],next A' c'⟩
theorem on73 (L B:Option Addr) (bn bc:Nat) (mv fv:Value) (l:List In) (s:Spot) (x:In) (w:World) (hL:RowAt w L [.slice B bn bc,mv,fv]) (hB:RowAt w B (cellsI l)) (hbn:bn=l.length) (h0:0≤s.1) (hx:l[s.1.toNat]? = some x) :
  CallsV Tryz.prog 43 [.pointer L,spotV s] w fun v w'=>∃ g1 g2 g3,v=.func (.func 69) #[] #[.pointer (some ⟨g1,0,none⟩),.pointer (some ⟨g2,0,none⟩),.pointer (some ⟨g3,0,none⟩)]∧(w.heap.size≤g1∧w.heap.size≤g2∧w.heap.size≤g3)∧(g1 ≠ g2∧g1 ≠ g3∧g2 ≠ g3) ∧
   (w'.heap[g1]? = some (.cells #[.int .i64 s.1,.bool s.2] 68 (0,0))∧w'.heap[g2]? = some (.cells x.cells.toArray 47 (0,0))∧w'.heap[g3]? = some (.cells #[.pointer L] 61 (0,0)))∧Fresh w w':=by
 obtain⟨hlt,hx⟩:=List.getElem?_eq_some_iff.1 hx
 subst hbn
 refine zj03 (keep:=K43) (nt:=15) (svs:=[.adr L 0,.agg [.val (.int .i64 s.1),.val (.bool s.2)]]) Tryz.func43 x43 n43 (by simp) ?_ fun R hR=>?_
 ·have hs:L.isSome=true:=hL.isSome (j:=0) (by simp)
  cases L <;> simp[IsL,Is,Addr.add,spotV] at hs ⊢
 (refine Y_go 600 ?_; dsimp only[go_sem,Nat.reduceAdd,Nat.reduceBEq])
 have hs:L.isSome=true:=hL.isSome (j:=0) (by simp)
 refine fun g3 g1=>⟨hs,hs,_,_,_,hL.cell (j:=0) rfl,⟨h0,by omega,someI hB hlt⟩,_,cellI hB hlt (k:=0) rfl,_,cellI hB hlt (k:=1) rfl,_,cellI hB hlt (k:=2) rfl,_,cellI hB hlt (k:=3) rfl,_,cellI hB hlt (k:=4) rfl,fun g2=>?_⟩
 refine zj01 (vs:=[.func (.func 69) #[] #[.pointer (some ⟨g1,0,none⟩),.pointer (some ⟨g2,0,none⟩),.pointer (some ⟨g3,0,none⟩)]]) r43 rfl rfl fun W hW=>hR _ _ ⟨g1,g2,g3,rfl,⟨?_,?_,?_⟩,⟨?_,?_,?_⟩,⟨?_,?_,?_⟩,hW.fresh'⟩
 ·exact hW.newer (i:=1) rfl rfl
 ·exact hW.newer (i:=2) rfl rfl
 ·exact hW.newer (i:=0) rfl rfl
 ·intro e; subst e; exact hW.dist 1 2 _ _ g1 (by decide) rfl rfl rfl rfl
 ·intro e; subst e; exact hW.dist 1 0 _ _ g1 (by decide) rfl rfl rfl rfl
 ·intro e; subst e; exact hW.dist 2 0 _ _ g2 (by decide) rfl rfl rfl rfl
 ·obtain⟨c,hc,hL⟩:=hW.ents 1 _ rfl
  have:=zj0t _ (us:=[.int .i64 s.1,.bool s.2]) rfl hL
  have e:c=#[.int .i64 s.1,.bool s.2]:=by rw[← Array.toList_inj]; exact this
  rw[e] at hc; exact hc
 ·obtain⟨c,hc,hL⟩:=hW.ents 2 _ rfl
  have:=zj0t _ (us:=(l[s.1.toNat]).cells) rfl hL
  have e:c=(l[s.1.toNat]).cells.toArray:=by rw[← Array.toList_inj]; exact this
  rw[e] at hc; rw[← hx]; exact hc
 ·obtain⟨c,hc,hL⟩:=hW.ents 0 _ rfl
  have:=zj0t _ (us:=[.pointer (L.map (·.add 0))]) rfl hL
  have e2:L.map (·.add 0)=L:=by cases L <;> simp[Addr.add]
  rw[e2] at this
  have e:c=#[.pointer L]:=by rw[← Array.toList_inj]; exact this
  rw[e] at hc; exact hc
structure WG where
 gm:Nat
 gl:Nat
 B:Option Addr
 bn:Nat
 bc:Nat
 gb:Nat
 g4:Nat
 gt:Nat
 ga:Nat
 gx:Nat
 gs:Nat
 g1:Nat
 g2:Nat
 g3:Nat
 D:Nat
 lno:Nat
 s:Spot
 x:In
 set:Set8
structure WV where
 k:Nat
 v:Nat
 Af:Option Addr
 cf:Nat
 At:Option Addr
 ct:Nat
abbrev HM (w:WG) (st:St) (q:WV) (o:Obj):List SO:=[.cells w.gb 61 [.ptr 1 0],.gone w.g4,.cells w.gt 98 [.own 6 q.v],.own 68 q.v 2 q.At st.todo.length q.ct (spotsV st.todo),.cells w.ga 68 [.val (.int .i64 w.s.1),.val (.bool w.s.2)],.cells w.gx 47 (In.sv w.x),.cells w.gs 5 [.val (.int .u8 w.set.toNat)],.cells w.g1 68 [.val (.int .i64 w.s.1),.val (.bool w.s.2)],.cells w.g2 47 (In.sv w.x),.cells w.g3 61 [.val (.pointer (some ⟨w.gl,0,none⟩))],.obj w.D (.deferred (some [])),.obj w.lno o]
abbrev HS (w:WG) (st:St) (q:WV) (o:Obj) (gn:Nat) (nn:Spot):List SO:=lkE w.gm w.gl w.B w.bn w.bc st.met q.k q.Af st.fs.length q.cf (fsV st.fs)++(HM w st q o++[.cells gn 68 [.val (.int .i64 nn.1),.val (.bool nn.2)]])
abbrev walkF:List (Nat × SV):=[(1,.ptr 3 0),(2,.ptr 5 0),(3,.ptr 7 0),(4,.ptr 8 0),(5,.ptr 9 0),(58,.fn (.func 69) [] [.ptr 10 0,.ptr 11 0,.ptr 12 0])]
abbrev asX:XC:=match T19n9 with | .blk _ (.rng _ _ a _)=>a | _=>.skip
abbrev YI (w:WG):SV:=.val (.func (.yield w.lno) #[] #[])
structure WV.le (a b:WV):Prop where
 k0:a.k≤b.k
 k1:b.k≤a.k+1
 v0:a.v≤b.v
 v1:b.v≤a.v+1
abbrev HB (w:WG) (m:Met) (td:List Spot) (fs:List (Int × Int)) (q:WV) (o:Obj) (gn:Nat) (nn:Spot) (g6:Nat) (n:Spot):List SO :=
 lkE w.gm w.gl w.B w.bn w.bc m q.k q.Af fs.length q.cf (fsV fs)++([.cells w.gb 61 [.ptr 1 0],.gone w.g4,.cells w.gt 98 [.own 6 q.v],.own 68 q.v 2 q.At td.length q.ct (spotsV td),.cells w.ga 68 [.val (.int .i64 w.s.1),.val (.bool w.s.2)],.cells w.gx 47 (In.sv w.x),.cells w.gs 5 [.val (.int .u8 w.set.toNat)],.cells w.g1 68 [.val (.int .i64 w.s.1),.val (.bool w.s.2)],.cells w.g2 47 (In.sv w.x),.cells w.g3 61 [.val (.pointer (some ⟨w.gl,0,none⟩))],.obj w.D (.deferred (some [])),.obj w.lno o]++[.cells gn 68 [.val (.int .i64 nn.1),.val (.bool nn.2)],.cells g6 68 [.val (.int .i64 n.1),.val (.bool n.2)]])
def meetM (set:Set8) (m:Met) (td:List Spot) (n:Spot):Met × List Spot × Bool:=match get m n with
 | none=>(put m n (255#8 &&& set),td++[n],true)
 | some was=>if was &&& set ≠ was then (put m n (was &&& set),td++[n],true) else (m,td,false)
theorem roundB {b:World} {N:Nat} {stl:List Nat} {Q':Post} (hQ':zj0e Q') (w:WG) (m:Met) (td:List Spot) (fs:List (Int × Int)) (n:Spot) (q:WV) (o:Obj) (gn:Nat) (nn:Spot) (g6:Nat)
  (hn:0≤n.1∧n.1≤1024) (hrg:Rg m) (htd:td.length≤100000000) (hv:q.v=0∨q.v=1) {F:List (Nat × SV)} (hF:leF 17 F [(1,.ptr 3 0),(2,.ptr 5 0),(5,.ptr 9 0),(6,.ptr 16 0)])
  (hend:∀ v' At' ct',q.v≤v'→v'≤q.v+1→(v'=q.v→At'=q.At∧ct'=q.ct∧(meetM w.set m td n).2.1=td)→∀ F2 a W,Rep ⟨b,N,stl,108,[]⟩ { F:=F2,H:=HB w (meetM w.set m td n).1 (meetM w.set m td n).2.1 fs { q with v:=v',At:=At',ct:=ct' } o gn nn g6 n } a W→Q' .normal a W) :
  G (cxR Tryz.prog K19 T19 w.lno Q') ⟨b,N,stl,108,[]⟩ [.code (.ref 7),.blk 3] { F:=F,H:=HB w m td fs q o gn nn g6 n }:=by
 refine G.le (E':=⟨b,N,stl,108,[]⟩) (s':={ F:=[(1,.ptr 3 0),(2,.ptr 5 0),(5,.ptr 9 0),(6,.ptr 16 0)],H:=HB w m td fs q o gn nn g6 n }) rfl (fun a W rep=>rep.le hF (by (simp only[go_sem,lk,Nat.reduceBEq,reduceLT,reduceAdd] <;> try simp); exact rfl)) ?_
 obtain⟨k,v,Af,cf,At,ct⟩:=q
 simp only at hv
 have hfit:=fit_met hrg
 have hfn:=zj5g hn.1 hn.2
 have hget:=zj5f m n
 have hput:=putA_met m n
 have hsp:spotsV td++[Value.int IntKind.i64 n.1,Value.bool n.2]=spotsV (td++[n]):=by rw[spotsV_app]; rfl
 have push:∀ r:Set8,meetM w.set m td n=(put m n r,td++[n],true)→∀ v',v'=v+1→∀ A c g F2 a W,Rep ⟨b,N,stl,108,[]⟩ { F:=F2,H:=HB w (put m n r) (td++[n]) fs ⟨k,v',Af,cf,A,c⟩ o gn nn g6 n++[.cells g 68 [.val (.int .i64 n.1),.val (.bool n.2)]] } a W→Q' .normal a W:=by
  rintro r hmt v' rfl A c g F2 a W rep
  rw[hmt] at hend
  refine hend (v+1) A c (by show v≤v+1; omega) (by show v+1≤v+1; omega) (fun e=>by have e:v+1=v:=e; omega) [] a W (rep.le ?_ ?_)
  ·(simp only[go_sem,lk,Nat.reduceBEq,reduceLT,reduceAdd] <;> try simp)
  ·(simp only[go_sem,lk,Nat.reduceBEq,reduceLT,reduceAdd] <;> try simp); exact rfl
 have keep:∀ m',meetM w.set m td n=(m,td,m')→∀ F2 a W,Rep ⟨b,N,stl,108,[]⟩ { F:=F2,H:=HB w m td fs ⟨k,v,Af,cf,At,ct⟩ o gn nn g6 n } a W→Q' .normal a W:=by
  rintro m' hmt F2 a W rep
  rw[hmt] at hend
  exact hend v At ct (Nat.le_refl _) (by show v≤v+1; omega) (fun _=>⟨rfl,rfl,rfl⟩) F2 a W rep
 cases hg:get m n with
 | none =>
  have hmt:meetM w.set m td n=(put m n (255#8 &&& w.set),td++[n],true):=by simp[meetM,hg]
  rw[hg] at hget
  rcases hv with rfl | rfl
  all_goals (refine zj0c hQ' 600 ?_; dsimp only[go_sem,Nat.reduceBEq,reduceAdd])
  all_goals refine⟨⟨hfn,hfit⟩,none,hget,.val (.int .u8 0),rfl,?_⟩
  all_goals dsimp only[go_sem,Option.isSome,Nat.reduceBEq,reduceAdd,Nat.reduceMul]
  all_goals refine⟨fun _=>⟨fun _=>⟨_,and8 255#8 w.set,⟨hfn,hfit⟩,_,hput _,fun g=>⟨⟨by simp only[maxLen]; omega,by omega⟩,fun A c=>?_⟩⟩,fun h=>absurd h (by decide)⟩,fun h=>absurd h (by decide)⟩
  all_goals rw[hsp]
  all_goals refine zj0s fun a W rep=>push _ hmt _ rfl A c g [] a W (rep.le ?_ ?_)
  all_goals first | ((simp only[go_sem,lk,Nat.reduceBEq,reduceLT,reduceAdd] <;> try simp); done) | ((simp only[go_sem,lk,Nat.reduceBEq,reduceLT,reduceAdd] <;> try simp); exact rfl)
 | some was =>
  rw[hg] at hget
  rcases hv with rfl | rfl
  all_goals (refine zj0c hQ' 600 ?_; dsimp only[go_sem,Nat.reduceBEq,reduceAdd])
  all_goals refine⟨⟨hfn,hfit⟩,_,hget,.val (.int .u8 was.toNat),rfl,?_⟩
  all_goals dsimp only[go_sem,Option.map,Option.isSome,Nat.reduceBEq,reduceAdd,Nat.reduceMul]
  all_goals refine⟨fun h=>absurd h (by decide),fun _=>⟨fun h=>absurd h (by decide),fun _=>⟨_,and8 was w.set,⟨fun hne=>⟨_,and8 was w.set,⟨hfn,hfit⟩,_,hput _,fun g=>⟨⟨by simp only[maxLen]; omega,by omega⟩,fun A c=>?_⟩⟩,fun heq=>?_⟩⟩⟩⟩
  all_goals try rw[hsp]
  all_goals first
   | (have hne' : was &&& w.set ≠ was := fun e => by rw [e] at hne; simp at hne
      have hmt:meetM w.set m td n=(put m n (was &&& w.set),td++[n],true):=by simp[meetM,hg,hne']
      refine zj0s fun a W rep=>push _ hmt _ rfl A c g [] a W (rep.le ?_ ?_) <;> first | ((simp only[go_sem,lk,Nat.reduceBEq,reduceLT,reduceAdd] <;> try simp); done) | ((simp only[go_sem,lk,Nat.reduceBEq,reduceLT,reduceAdd] <;> try simp); exact rfl))
   | (have heq' : was &&& w.set = was := eq8.1 (by simpa using heq)
      have hmt:meetM w.set m td n=(m,td,false):=by simp[meetM,hg,heq']
      refine zj0s fun a W rep=>keep _ hmt [] a W (rep.le ?_ ?_) <;> first | ((simp only[go_sem,lk,Nat.reduceBEq,reduceLT,reduceAdd] <;> try simp); done) | ((simp only[go_sem,lk,Nat.reduceBEq,reduceLT,reduceAdd] <;> try simp); exact rfl))
theorem meet_meetM (len:Int) (set:Set8) (p:Int) (st:St) (n:Spot):meet len set p st n=⟨(meetM set st.met st.todo n).1,(meetM set st.met st.todo n).2.1,if n.2=true∧len≤n.1 then st.fs++[(5,p)] else st.fs⟩:=by
 unfold meet meetM
 cases get st.met n with
 | none=>rfl
 | some was=>by_cases h:was &&& set ≠ was <;> simp[h]
theorem zj0z {C:Cx} {E:Env} {k:List KI} {s:SS} (h:G C E k s):G C E (.ops [] :: k) s:=by
 intro a W rep ops ol hol
 have:ol=[]:=by
  cases ol with
  | nil=>rfl
  | cons x l=>simp only[cmpL] at hol; split at hol <;> simp at hol
 subst this
 exact h a W rep
theorem zj3a {t:TypeId} {k k' sz:Nat} {A A':Option Addr} {n n' c c':Nat} {xs xs':List Value} (h:(k'=k∧A'=A∧n'=n∧c'=c∧xs'=xs)∨k < k'):(∃ g,(SO.own t k sz A n c xs).blk=some g∧(SO.own t k' sz A' n' c' xs').blk=some g)∨SO.own t k' sz A' n' c' xs'=SO.own t k sz A n c xs∨bump (SO.own t k sz A n c xs) (SO.own t k' sz A' n' c' xs'):=by
 rcases h with⟨rfl,rfl,rfl,rfl,rfl⟩ | h
 ·exact .inr (.inl rfl)
 ·exact .inr (.inr h)
theorem hs_ext (w:WG) (st:St) (q q':WV) (o o':Obj) (gn g6:Nat) (nn n:Spot) (m':Met) (td':List Spot) (fs':List (Int × Int)) (hk:(q'.k=q.k∧q'.Af=q.Af∧q'.cf=q.cf∧fs'=st.fs)∨q.k < q'.k) (hv:(q'.v=q.v∧q'.At=q.At∧q'.ct=q.ct∧td'=st.todo)∨q.v < q'.v):HExt (HS w st q o gn nn) (HB w m' td' fs' q' o' gn nn g6 n):=by
 refine zj05 ⟨.inl ⟨_,rfl,rfl⟩,.inl ⟨_,rfl,rfl⟩,zj3a ?_,.inl ⟨_,rfl,rfl⟩,.inl ⟨_,rfl,rfl⟩,.inl ⟨_,rfl,rfl⟩,zj3a ?_,.inl ⟨_,rfl,rfl⟩,.inl ⟨_,rfl,rfl⟩,.inl ⟨_,rfl,rfl⟩,.inl ⟨_,rfl,rfl⟩,.inl ⟨_,rfl,rfl⟩,.inl ⟨_,rfl,rfl⟩,.inl ⟨_,rfl,rfl⟩,.inl ⟨_,rfl,rfl⟩,.inl ⟨_,rfl,rfl⟩,trivial⟩
 ·exact hk.imp (fun⟨a,b,c,d⟩=>⟨a,b,by rw[d],c,by rw[d]⟩) id
 ·exact hv.imp (fun⟨a,b,c,d⟩=>⟨a,b,by rw[d],c,by rw[d]⟩) id
theorem round39 {R':Value→World→Prop} {b:World} {N:Nat} {stl:List Nat} {mk:List Nat} {nt':Nat} (w:WG) (st:St) (n:Spot) (q:WV) (rec:Loop) (gn:Nat) (nn:Spot) (s0:SS)
  (hn:0≤n.1∧n.1≤1024) (hrg:Rg st.met) (hfs:st.fs.length≤100000000) (htd:st.todo.length≤100000000) (hv:q.v=0∨q.v=1) (hst:rec.state=.ready)
  (hrec:RecOk Tryz.prog 108 T19 s0 [59] asX (.ref 8) rec) (hF0:s0.F=walkF) (hx:HExt s0.H (HS w st q (.loop rec) gn nn))
  {d:Option Nat} {f:Operand} {args:List Operand} {l:List XS} {kk:List KI} {F':List (Nat × SV)} (hf:den (HS w st q (.loop rec) gn nn) (ev F' f)=some (.func (.yield w.lno) #[] #[])) (ha1:args.length=1) (hargs:evL F' args=[.agg [.val (.int .i64 n.1),.val (.bool n.2)]])
  {F'':List (Nat × SV)} (hF2:leF 16 (putF F' d .bt) F'')
  (next:∀ q':WV,q.le q'→(q'.k=q.k→q'.Af=q.Af∧q'.cf=q.cf∧(meet w.bn w.set w.s.1 st n).fs=st.fs)→(q'.v=q.v→q'.At=q.At∧q'.ct=q.ct∧(meet w.bn w.set w.s.1 st n).todo=st.todo) →
   G (cxOf Tryz.prog Tryz.f69 K69 T69 R') ⟨b,N,stl,nt',[]⟩ (.ops l :: kk) { F:=F'',H:=HS w (meet w.bn w.set w.s.1 st n) q' (.loop rec) gn nn }) :
  G (cxOf Tryz.prog Tryz.f69 K69 T69 R') ⟨b,N,stl,nt',[]⟩ (.ops ({ dst:=d,guard:=none,i:=.callv f args } :: l) :: kk) { F:=F',H:=HS w st q (.loop rec) gn nn }:=by
 refine zj0x (C':=cxOf Tryz.prog Tryz.f69 K69 T69 R') (E:=⟨b,N,stl,108,mk⟩) (E':=⟨b,N,stl,nt',[]⟩) (s':={ F:=F',H:=HS w st q (.loop rec) gn nn }) (i:=14) (rec:=rec) (lno:=w.lno) (keep:=K19) rfl rfl rfl hrec ?_ hf ?_ rfl hx ?_
 ·intro p hp; simp at hp; subst hp; show 59 < 108; decide
 ·exact ha1.symm
 intro J Q' hQ' hbeg hnorm _
 have hF:zj0e (fun _ _ _=>False):=fun _ _ _ h=>h
 rw[hargs,hF0]
 (refine zj0c hF 600 ?_; dsimp only[go_sem,asX,setPs,HM,reduceAdd,Nat.reduceBEq])
 refine fun g6=>zj02 fun a W rep=>hbeg _ _ rfl ?_ a W rep
 have tl:∀ (fs':List (Int × Int)) (k':Nat) (Af':Option Addr) (cf':Nat),fs'=(if n.2=true∧(w.bn:Int)≤n.1 then st.fs++[(5,w.s.1)] else st.fs)→q.k≤k'→k'≤q.k+1→((k'=q.k∧Af'=q.Af∧cf'=q.cf∧fs'=st.fs)∨q.k < k') →
   ∀ F,leF 17 F [(1,.ptr 3 0),(2,.ptr 5 0),(5,.ptr 9 0),(6,.ptr 16 0)]→G (cxR Tryz.prog K19 T19 w.lno Q') ⟨b,N,stl,108,[]⟩ [.code (.ref 7),.blk 3] { F:=F,H:=HB w st.met st.todo fs' { q with k:=k',Af:=Af',cf:=cf' } (.loop { rec with state:=.busy }) gn nn g6 n }:=by
  intro fs' k' Af' cf' hfs' hk0 hk1 hkk F hF
  refine roundB hQ' w st.met st.todo fs' n { q with k:=k',Af:=Af',cf:=cf' } _ gn nn g6 hn hrg htd hv hF fun v' At' ct' hv0 hv1 hvv F2 a W rep=>?_
  have hmm:=meet_meetM w.bn w.set w.s.1 st n
  rw[← hfs'] at hmm
  refine hnorm _ rfl (hs_ext w st q _ _ _ gn g6 nn n _ _ fs' hkk ?_) ?_ F2 a W rep
  ·rcases Nat.lt_or_ge q.v v' with h | h
   ·exact .inr h
   ·have e:v'=q.v:=by have:q.v≤v':=hv0; omega
    obtain⟨h1,h2,h3⟩:=hvv e
    exact .inl ⟨e,h1,h2,h3⟩
  ·refine G.le (E':=⟨b,N,stl,nt',[]⟩) (s':={ F:=F'',H:=HS w (meet w.bn w.set w.s.1 st n) ⟨k',v',Af',cf',At',ct'⟩ (.loop rec) gn nn }) rfl (fun a W rep=>?_) (next ⟨k',v',Af',cf',At',ct'⟩ ⟨hk0,hk1,hv0,hv1⟩ (fun e=>?_) (fun e=>?_))
   ·rw[hmm]
    refine rep.le hF2 ?_
    (simp only[go_sem,lk,Nat.reduceBEq,reduceLT,reduceAdd] <;> try simp)
    exact rfl
   ·rcases hkk with⟨_,h2,h3,h4⟩ | h
    ·exact⟨h2,h3,by rw[hmm]; exact h4⟩
    ·have e:k'=q.k:=e; omega
   ·obtain⟨h1,h2,h3⟩:=hvv e
    exact⟨h1,h2,by rw[hmm]; exact h3⟩
 (refine zj0c hQ' 20 ?_; dsimp only[go_sem,Nat.reduceBEq,reduceAdd,Y_0])
 refine⟨fun hin=>⟨fun hge=>?_,fun hlt=>?_⟩,fun hin=>?_⟩
 ·have hge:=of_decide_eq_true hge
  (refine zj0c hQ' 600 ?_; dsimp only[go_sem,Nat.reduceBEq,reduceAdd])
  refine zj0h (C:=cxR Tryz.prog K19 T19 w.lno Q') rfl (gm:=w.gm) (gl:=w.gl) (B:=w.B) (bn:=w.bn) (bc:=w.bc) (m:=st.met) (k:=q.k) (A:=q.Af) (n:=st.fs.length) (c:=q.cf) (xs:=fsV st.fs) (cd:=5) (p:=w.s.1) (r:=HM w st q (.loop { rec with state:=.busy })++[.cells gn 68 [.val (.int .i64 nn.1),.val (.bool nn.2)],.cells g6 68 [.val (.int .i64 n.1),.val (.bool n.2)]]) (by omega) ?_ fun A' c'=>?_
  ·rfl
  refine zj0z ?_
  have hfs:(if n.2=true∧(w.bn:Int)≤n.1 then st.fs++[(5,w.s.1)] else st.fs)=st.fs++[(5,w.s.1)]:=if_pos ⟨hin,hge⟩
  have e1:fsV st.fs++[Value.int .i64 5,.int .i64 w.s.1]=fsV (st.fs++[(5,w.s.1)]):=by rw[zj40]; rfl
  have e2:st.fs.length+1=(st.fs++[(5,w.s.1)]).length:=by simp
  rw[e1,e2]
  exact tl (st.fs++[(5,w.s.1)]) (q.k+1) A' c' hfs.symm (by omega) (by omega) (.inr (by omega)) _ (by simp only[putF]; (simp only[go_sem,lk,Nat.reduceBEq,reduceLT,reduceAdd] <;> try simp))
 ·have hlt:=of_decide_eq_false hlt
  exact tl st.fs q.k q.Af q.cf (if_neg (by omega)).symm (by omega) (by omega) (.inl ⟨rfl,rfl,rfl,rfl⟩) _ (by (simp only[go_sem,lk,Nat.reduceBEq,reduceLT,reduceAdd] <;> try simp))
 ·exact tl st.fs q.k q.Af q.cf (if_neg (by simp[hin])).symm (by omega) (by omega) (.inl ⟨rfl,rfl,rfl,rfl⟩) _ (by (simp only[go_sem,lk,Nat.reduceBEq,reduceLT,reduceAdd] <;> try simp))
end Go.Proofs.YtgghmmjoplddbaaGreatDoor
