/- The document's lint, in plain words: rounds over a table of marks come to where ways come. -/
import Derived.Test.YtlbiogokpadaoaaGreatDoorLpCmp
import Derived.Test.YtlbiogokpadaoaaGreatDoorBgCodeRf2
set_option linter.unusedSimpArgs false
set_option linter.unusedVariables false
set_option linter.unnecessarySimpa false
namespace Go.Lint
open Go Go.Sx Go.Isa
def ixS (s:Spot):Nat:=s.1.toNat*2+(if s.2 then 1 else 0)
def gO (x:In) (s:Spot):List Spot:=if legalB x=true then nxt x s else []
def setsI (x:In):Int:=if 2≤x.op∧x.op≤11 then x.a else -1
def stopB (which:Int) (x:In):Bool:=decide (0≤which) && decide (setsI x=which)
inductive ReachW (cs:List In) (which:Int):Spot→Prop
 | start:ReachW cs which (0,false)
 | step (s n:Spot) (x:In):ReachW cs which s→cs[s.1.toNat]? = some x→stopB which x=false→n ∈ gO x s→ReachW cs which n
theorem ixS_inj {s t:Spot} (hs:0≤s.1) (ht:0≤t.1) (h:ixS s=ixS t):s=t:=by
 obtain⟨p,b⟩:=s
 obtain⟨q,c⟩:=t
 unfold ixS at h
 simp only at h hs ht
 cases b <;> cases c <;> simp at h ⊢ <;> omega
def mkd (o:List Bool) (s:Spot):Bool:=o.getD (ixS s) false
def mk1 (o:List Bool) (s:Spot):List Bool:=o.set (ixS s) true
theorem mkd_mk1 {o:List Bool} {s t:Spot} (hl:ixS s < o.length) (hs:0≤s.1) (ht:0≤t.1):mkd (mk1 o s) t=true ↔ t=s∨mkd o t=true:=by
 unfold mkd mk1
 rw[List.getD_eq_getElem?_getD,List.getD_eq_getElem?_getD,List.getElem?_set]
 by_cases h:ixS s=ixS t
 ·have:=ixS_inj hs ht h
  subst this
  simp[hl]
 ·rw[if_neg h]
  constructor
  ·exact fun h=>.inr h
  ·rintro (rfl | h')
   ·exact absurd rfl h
   ·exact h'
def Mono (o o':List Bool):Prop:=o.length=o'.length∧∀ j,o.getD j false=true→o'.getD j false=true
theorem Mono.refl (o:List Bool):Mono o o:=⟨rfl,fun _ h=>h⟩
theorem Mono.trans {a b c:List Bool} (h:Mono a b) (k:Mono b c):Mono a c:=⟨h.1.trans k.1,fun j hj=>k.2 j (h.2 j hj)⟩
theorem zj2g (o:List Bool) (s:Spot):Mono o (mk1 o s):=by
 refine⟨by simp[mk1],fun j hj=>?_⟩
 unfold mk1
 rw[List.getD_eq_getElem?_getD] at *
 rw[List.getElem?_set]
 split
 ·split
  ·rfl
  ·rename_i h1 h2
   rw[← h1,List.getElem?_eq_none (by omega)] at hj
   exact hj
 ·exact hj
def DoneW (cs:List In) (which:Int) (o:List Bool) (s:Spot):Prop:=∀ x,cs[s.1.toNat]? = some x→stopB which x=false→∀ n ∈ gO x s,mkd o n=true
theorem DoneW.mono {cs:List In} {which:Int} {o o':List Bool} {s:Spot} (h:DoneW cs which o s) (m:Mono o o'):DoneW cs which o' s:=fun x hx hst n hn=>m.2 _ (h x hx hst n hn)
def spotN (k:Nat):Spot:=((k / 2:Nat),decide (k % 2=1))
theorem ix_spotN (k:Nat):ixS (spotN k)=k:=by
 unfold ixS spotN
 simp only[decide_eq_true_eq]
 split <;> omega
def Closed (cs:List In) (which:Int) (o:List Bool):Prop:=∀ j,j < 2*cs.length→mkd o (spotN j)=true→DoneW cs which o (spotN j)
structure RInvQ (cs:List In) (which:Int) (o0 o:List Bool) (turned:Bool) (k:Nat):Prop where
 mono:Mono o0 o
 done:∀ j,j < k→mkd o0 (spotN j)=true→DoneW cs which o (spotN j)
 same:turned=false→o=o0
 clo:Closed cs which o0→∀ s:Spot,0≤s.1→mkd o s=true→mkd o0 s=true
structure OInv (cs:List In) (which:Int) (o:List Bool):Prop where
 len:o.length=2050
 sound:∀ s:Spot,0≤s.1→mkd o s=true→ReachW cs which s
 start:mkd o (0,false)=true
theorem RInvQ.begin (cs:List In) (which:Int) (o:List Bool):RInvQ cs which o o false 0:=⟨Mono.refl _,fun j h=>absurd h (Nat.not_lt_zero _),fun _=>rfl,fun _ _ _ h=>h⟩
def cntS (n:Nat) (o:List Bool):Nat:=(o.take n).count true
theorem cntS_le (n:Nat) (o:List Bool):cntS n o≤n:=by
 unfold cntS
 exact Nat.le_trans List.count_le_length (by rw[List.length_take]; omega)
theorem cnt_mono:∀ (l l':List Bool),l.length=l'.length→(∀ j,l.getD j false=true→l'.getD j false=true)→l.count true≤l'.count true∧(l.count true=l'.count true→l=l')
 | [],[],_,_=>⟨Nat.le_refl _,fun _=>rfl⟩
 | a :: l,b :: l',hl,h=>by
  have ih:=cnt_mono l l' (by simpa using hl) (fun j hj=>by have:=h (j+1); simpa using this (by simpa using hj))
  have h0:=h 0
  simp at h0
  cases a <;> cases b <;> simp at h0 ⊢
  ·exact ih
  ·refine⟨by have:=ih.1; omega,fun e=>?_⟩
   have:=ih.1; omega
  ·exact ih
theorem zj3m {o:List Bool} {n j:Nat} (h:j < n):(o.take n).getD j false=o.getD j false:=by
 rw[List.getD_eq_getElem?_getD,List.getD_eq_getElem?_getD,List.getElem?_take,if_pos h]
theorem cntS_mono {n:Nat} {o o':List Bool} (h:Mono o o'):cntS n o≤cntS n o'∧(cntS n o=cntS n o'→∀ j,j < n→o.getD j false=o'.getD j false):=by
 have:=cnt_mono (o.take n) (o'.take n) (by simp[h.1]) (fun j hj=>by
  by_cases hjn:j < n
  ·rw[zj3m hjn] at *; exact h.2 j hj
  ·rw[List.getD_eq_getElem?_getD,List.getElem?_eq_none (by simp; omega)] at hj; cases hj)
 refine⟨this.1,fun e j hj=>?_⟩
 have e2:=this.2 e
 rw[← zj3m (o:=o) hj,e2,zj3m hj]
theorem zj3n (o:List Bool) (j:Nat):mkd o (spotN j)=o.getD j false:=by unfold mkd; rw[ix_spotN]
def Prog (cs:List In) (which:Int) (o:List Bool) (r:Nat):Prop:=Closed cs which o∨r+1≤cntS (2*cs.length) o
theorem prog_start {cs:List In} {which:Int} {o:List Bool} (h:OInv cs which o):Prog cs which o 0:=by
 unfold Prog
 rcases Nat.eq_zero_or_pos cs.length with hl | hl
 ·left; intro j hj; omega
 ·right
  have h1:(o.take (2*cs.length)).getD 0 false=true:=by
   rw[zj3m (by omega)]
   exact h.start
  unfold cntS
  refine Nat.succ_le_of_lt (List.count_pos_iff.2 ?_)
  rw[List.getD_eq_getElem?_getD] at h1
  cases hg:(o.take (2*cs.length))[0]? with
  | none=>rw[hg] at h1; cases h1
  | some b=>rw[hg] at h1; simp at h1; subst h1; exact List.mem_of_getElem? hg
theorem prog_round {cs:List In} {which:Int} {o0 o:List Bool} {turned:Bool} {r:Nat} (h:RInvQ cs which o0 o turned (2*cs.length)) (hp:Prog cs which o0 r):(turned=false→Closed cs which o)∧Prog cs which o (r+1):=by
 have key:(∀ j,j < 2*cs.length→o0.getD j false=o.getD j false)→Closed cs which o:=fun he j hj hm=>h.done j hj (by rw[zj3n] at *; rw[he j hj]; exact hm)
 refine⟨fun ht=>key fun j _=>by rw[h.same ht],?_⟩
 have hc:=cntS_mono (n:=2*cs.length) h.mono
 by_cases he:cntS (2*cs.length) o0=cntS (2*cs.length) o
 ·exact .inl (key (hc.2 he))
 ·rcases hp with hcl | hn
  ·refine .inl (key fun j _=>?_)
   have h1:=h.mono.2 j
   have h2:=h.clo hcl (spotN j) (by show (0:Int)≤((j / 2:Nat):Int); omega)
   rw[zj3n,zj3n] at h2
   cases e1:o0.getD j false <;> cases e2:o.getD j false <;> simp_all
  ·right; omega
theorem RInvQ.mark {cs:List In} {which:Int} {o0 o:List Bool} {t:Bool} {k:Nat} (h:RInvQ cs which o0 o t k) {x:In} (hk:k < 2*cs.length) (hx:cs[(spotN k).1.toNat]? = some x) (hst:stopB which x=false) (hm:mkd o (spotN k)=true) {n:Spot} (hn:n ∈ gO x (spotN k)) (h0:0≤n.1) (hl:ixS n < o.length) :
  RInvQ cs which o0 (mk1 o n) (t || !mkd o n) k:=by
 refine⟨h.mono.trans (zj2g o n),fun j hj hj0=>(h.done j hj hj0).mono (zj2g o n),fun ht=>?_,fun hcl s hs hs1=>?_⟩
 ·simp at ht
  have:=h.same ht.1
  subst this
  unfold mk1
  have hmn:mkd o n=true:=ht.2
  unfold mkd at hmn
  rw[List.getD_eq_getElem?_getD,List.getElem?_eq_getElem hl] at hmn
  simp only[Option.getD_some] at hmn
  apply List.ext_getElem?
  intro j
  rw[List.getElem?_set]
  split
  ·rename_i e; subst e; rw[List.getElem?_eq_getElem hl,hmn]
  ·rfl
 ·rcases (mkd_mk1 hl h0 hs).1 hs1 with rfl | h2
  ·have hk0:=h.clo hcl (spotN k) (by show (0:Int)≤((k / 2:Nat):Int); omega) hm
   exact hcl k hk hk0 x hx hst s hn
  ·exact h.clo hcl s hs h2
theorem OInv.mark {cs:List In} {which:Int} {o:List Bool} (h:OInv cs which o) {k:Nat} {x:In} (hx:cs[(spotN k).1.toNat]? = some x) (hst:stopB which x=false) (hm:mkd o (spotN k)=true) {n:Spot} (hn:n ∈ gO x (spotN k)) (h0:0≤n.1) (hl:ixS n < o.length):OInv cs which (mk1 o n):=by
 refine⟨by simp[mk1,h.len],fun s hs hs1=>?_,(zj2g o n).2 _ h.start⟩
 rcases (mkd_mk1 hl h0 hs).1 hs1 with rfl | h2
 ·exact .step _ _ x (h.sound _ (by show (0:Int)≤((k / 2:Nat):Int); omega) hm) hx hst hn
 ·exact h.sound s hs h2
theorem RInvQ.next {cs:List In} {which:Int} {o0 o:List Bool} {t:Bool} {k:Nat} (h:RInvQ cs which o0 o t k) (hd:mkd o (spotN k)=true→DoneW cs which o (spotN k)):RInvQ cs which o0 o t (k+1):=by
 refine⟨h.mono,fun j hj hj0=>?_,h.same,h.clo⟩
 rcases Nat.lt_or_ge j k with hjk | hjk
 ·exact h.done j hjk hj0
 ·have:j=k:=by omega
  subst this
  exact hd (h.mono.2 _ hj0)
theorem zj7s {cs:List In} (hl:cs.length≤1024) {s n:Spot} {x:In} (h0:0≤s.1) (hx:cs[s.1.toNat]? = some x) (hn:n ∈ gO x s):0≤n.1∧n.1≤1024:=by
 unfold gO at hn
 split at hn
 ·exact zj2t h0 hx hl hn
 ·simp at hn
theorem ixS_lt {s:Spot} (h:s.1≤1024) (h0:0≤s.1):ixS s < 2050:=by unfold ixS; split <;> omega
theorem spotN_ix {s:Spot} (h0:0≤s.1):spotN (ixS s)=s:=by
 obtain⟨p,b⟩:=s
 simp only at h0
 unfold spotN ixS
 cases b
 ·simp only[Bool.false_eq_true,if_false,Nat.add_zero]
  ext
  ·show ((p.toNat*2 / 2:Nat):Int)=p; omega
  ·show decide (p.toNat*2 % 2=1)=false; simp
 ·simp only[if_true]
  ext
  ·show (((p.toNat*2+1) / 2:Nat):Int)=p; omega
  ·show decide ((p.toNat*2+1) % 2=1)=true; simp
theorem come_law {cs:List In} (hl:cs.length≤1024) {which:Int} {o:List Bool} (h:OInv cs which o) (hc:Closed cs which o) (s:Spot) (h0:0≤s.1):mkd o s=true ↔ ReachW cs which s:=by
 refine⟨h.sound s h0,fun hr=>?_⟩
 have key:∀ s,ReachW cs which s→0≤s.1∧mkd o s=true:=by
  intro s hr
  induction hr with
  | start=>exact⟨Int.le_refl _,h.start⟩
  | step s n x _ hx hst hn ih =>
   obtain⟨ih0,ih⟩:=ih
   have hlt:=(List.getElem?_eq_some_iff.1 hx).1
   have hj:ixS s < 2*cs.length:=by unfold ixS; split <;> omega
   refine⟨(zj7s hl ih0 hx hn).1,?_⟩
   have:=hc (ixS s) hj (by rw[spotN_ix ih0]; exact ih)
   rw[spotN_ix ih0] at this
   exact this x hx hst n hn
 exact (key s hr).2
end Go.Lint
namespace Go.Proofs.YtlbiogokpadaoaaGreatDoor
open Go Go.Sx Go.Isa Go.Lint
set_option maxRecDepth 100000
def bI (b:Bool):Int:=if b then 1 else 0
def pV (l:List Spot):List Value:=l.flatMap fun s=>[.int .i64 s.1,.int .i64 (bI s.2)]
def goesQ (x:In) (s:Spot):List Spot:=if legalB x=true then nxt x s else []
theorem nxt_br {x:In} {s:Spot} (h1:14≤x.op) (h2:x.op≤16) (h3:0≤x.imm) (h4:x.imm≤1024):nxt x s=[(x.imm,s.2),(s.1+1,s.2)]:=by
 unfold nxt
 rw[if_neg (by omega),if_neg (by omega),if_neg (by omega),if_neg (by omega),if_pos (by omega),if_neg (by omega),if_neg (by omega)]
 rfl
theorem goes124 (l:List In) (B:Option Addr) (bc i:Nat) (b:Bool) (x:In) (w:World) (hi:l[i]? = some x) (hl:l.length≤1024) (hB:RowAt w B (cellsI l)) (hG:ShAt w) :
  CallsV Tryz.prog 124 [.slice B l.length bc,.int .i64 (i:Int),.int .i64 (bI b)] w fun v w'=>∃ (A:Option Addr) (c:Nat),v=.tuple #[.slice A (goesQ x (i,b)).length c,.bool true] ∧
   World.ownsB w' w.heap.size 185 2 (.slice A (goesQ x (i,b)).length c) (goesQ x (i,b)).length (pV (goesQ x (i,b)))∧Fresh w w':=by
 have hil:=zj4d hi
 have hxx:l[i]=x:=by rw[List.getElem?_eq_getElem hil] at hi; injection hi
 refine zj03 (keep:=K124) (nt:=90) (svs:=[.val (.slice B l.length bc),.val (.int .i64 (i:Int)),.val (.int .i64 (bI b))]) Tryz.func124 x124 n124 (by simp) (by simp[IsL,Is]) fun R hR=>?_
 have hB0:RowE ⟨w,w.heap.size,[],90,[]⟩ B (cellsI l):=hB.toE (by simp) 90 []
 have cl:∀ k v,k < 5→x.cells[k]? = some v→CellAt ⟨w,w.heap.size,[],90,[]⟩ B (i*5+k) v:=fun k v hk hv=>hB0.cell (by rw[zj0b l hil hk,hxx]; exact hv)
 have hBs:B.isSome=true:=hB0.isSome (j:=i*5) (by rw[zj06]; omega)
 (refine Y_go 600 ?_; dsimp only[go_sem,Nat.reduceAdd,Nat.reduceBEq])
 refine⟨⟨by omega,by omega,hBs⟩,x.op,cl 0 _ (by omega) rfl,x.a,cl 1 _ (by omega) rfl,x.b,cl 2 _ (by omega) rfl,x.c,cl 3 _ (by omega) rfl,x.imm,cl 4 _ (by omega) rfl,fun gx=>?_⟩
 have nil:∀ s,goesQ x ((i:Int),b)=[]→denAll s.H s.F [6,7]=some [.slice none 0 0,.bool true]→RetG (cxOf Tryz.prog Tryz.f124 K124 T124 R) ⟨w,w.heap.size,[],90,[]⟩ s:=fun s h hd =>
  zj02 (vs:=_) r124 rfl hd fun W' hW'=>hR _ _ ⟨none,0,by rw[h]; rfl,by rw[h]; exact zj0x _ _ _ _,hW'.fresh'⟩
 have own:∀ s (j:Nat) (ver:Nat) (A:Option Addr) (c:Nat) (q:List Spot),goesQ x ((i:Int),b)=q→nth s.H j=some (.own 185 ver 2 A q.length c (pV q))→denAll s.H s.F [6,7]=some [.slice A q.length c,.bool true]→RetG (cxOf Tryz.prog Tryz.f124 K124 T124 R) ⟨w,w.heap.size,[],90,[]⟩ s:=fun s j ver A c q h hj hd =>
  zj02 (vs:=_) r124 rfl hd fun W' hW'=>hR _ _ ⟨A,c,by rw[h]; rfl,by rw[h]; exact hW'.owns (i:=j) hj,hW'.fresh'⟩
 have ar:ArOk .add .i64 (i:Int) 1 ((i:Int)+1):=ArOk.to rfl (by omega) (by omega)
 cases hlg:legalB x with
 | false =>
  have hgl:goesQ x ((i:Int),b)=[]:=by simp[goesQ,hlg]
  refine zj01 (vs:=[In.val x]) rfl (fun W hW=>zj17 x W) fun v hv=>⟨.bf,by rw[hv,hlg]; simp[Is],?_⟩
  (refine Y_go 600 ?_; dsimp only[go_sem,Nat.reduceBEq,Nat.reduceAdd])
  exact⟨_,ar,fun g=>nil _ hgl rfl⟩
 | true =>
  refine zj01 (vs:=[In.val x]) rfl (fun W hW=>zj17 x W) fun v hv=>⟨.bt,by rw[hv,hlg]; simp[Is],?_⟩
  (refine Y_go 600 ?_; dsimp only[go_sem,Nat.reduceBEq,Nat.reduceAdd,Int.reduceToNat,Nat.reduceMul])
  refine⟨_,ar,fun g=>?_⟩
  have hgo:goesQ x ((i:Int),b)=nxt x ((i:Int),b):=by simp[goesQ,hlg]
  clear cl hB0 hBs hR hB hG
  cases b
  all_goals repeat' (first | (refine⟨fun hA=>?_,fun hB=>?_⟩) | (refine⟨⟨by decide,by decide⟩,?_⟩) | (refine⟨⟨by simp[maxLen],by decide⟩,?_⟩) | (refine fun (_:Nat)=>?_) | (refine fun (_:Option Addr) (_:Nat)=>?_) | fail)
  all_goals first | (exfalso; clear nil own; simp_all [bI]; done) | (exact nil _ (by clear nil own; rw[hgo]; unfold nxt; simp_all <;> omega) rfl) | (exact own _ 3 _ _ _ [((i:Int)+1,true)] (by clear nil own; rw[hgo]; unfold nxt; simp_all <;> omega) rfl rfl) | (exact own _ 3 _ _ _ [((i:Int)+1,false)] (by clear nil own; rw[hgo]; unfold nxt; simp_all <;> omega) rfl rfl) | (exact own _ 3 _ _ _ [(x.imm,false)] (by clear nil own; rw[hgo]; unfold nxt; simp_all <;> omega) rfl rfl) | (exact own _ 3 _ _ _ [(x.imm,true)] (by clear nil own; rw[hgo]; unfold nxt; simp_all <;> omega) rfl rfl) | (exact own _ 3 _ _ _ [(x.imm,false),((i:Int)+1,false)] (by clear nil own; rw[hgo]; refine nxt_br ?_ ?_ ?_ ?_ <;> (simp_all <;> omega)) rfl rfl) | (exact own _ 3 _ _ _ [(x.imm,true),((i:Int)+1,true)] (by clear nil own; rw[hgo]; refine nxt_br ?_ ?_ ?_ ?_ <;> (simp_all <;> omega)) rfl rfl) | skip
open Nat (reduceAdd reduceLT)
theorem sets146 (x:In) (w:World):CallsV Tryz.prog 146 [In.val x] w fun v w'=>v=.int .i64 (setsI x)∧Fresh w w':=by
 refine zj03 (keep:=K146) (nt:=13) (svs:=[.agg (In.sv x)]) Tryz.func146 x146 n146 (by simp) (by simp only[IsL]; exact⟨_,_,In.is _ x,rfl,rfl⟩) fun R hR=>?_
 (refine Y_go 600 ?_; dsimp only[go_sem,In.sv,reduceAdd,Nat.reduceBEq])
 refine fun g=>⟨fun h1=>?_,fun h1=>?_⟩
 ·have h1:=of_decide_eq_true h1
  refine⟨fun h2=>?_,fun h2=>?_⟩
  ·have h2:=of_decide_eq_true h2
   exact zj02 (vs:=[.int .i64 x.a]) r146 rfl rfl fun W' hW'=>hR _ _ ⟨by show _=Value.int .i64 (setsI x); unfold setsI; rw[if_pos ⟨h1,h2⟩]; rfl,hW'.fresh'⟩
  ·have h2:=of_decide_eq_false h2
   exact zj02 (vs:=[.int .i64 (-1)]) r146 rfl rfl fun W' hW'=>hR _ _ ⟨by show _=Value.int .i64 (setsI x); unfold setsI; rw[if_neg (fun h=>h2 h.2)]; rfl,hW'.fresh'⟩
 ·have h1:=of_decide_eq_false h1
  exact zj02 (vs:=[.int .i64 (-1)]) r146 rfl rfl fun W' hW'=>hR _ _ ⟨by show _=Value.int .i64 (setsI x); unfold setsI; rw[if_neg (fun h=>h1 h.1)]; rfl,hW'.fresh'⟩
def bsVq (o:List Bool):List Value:=o.map Value.bool
theorem zj1d {o:List Bool} {j:Nat} (h:j < o.length):(bsVq o)[j]? = some (.bool (o.getD j false)):=by
 unfold bsVq
 rw[List.getElem?_map,List.getElem?_eq_getElem h,List.getD_eq_getElem?_getD,List.getElem?_eq_getElem h]
 rfl
def o00:List Bool:=(List.replicate 2050 false).set 0 true
theorem oinv0 (l:List In) (which:Int):OInv l which o00:=by
 refine⟨by simp[o00],fun s hs h=>?_,by simp[o00,mkd,ixS]⟩
 have:s=(0,false):=by
  by_cases e:ixS s=0
  ·exact ixS_inj hs (Int.le_refl 0) (by rw[e]; rfl)
  ·unfold mkd o00 at h
   rw[List.getD_eq_getElem?_getD,List.getElem?_set_ne (by omega),List.getElem?_replicate] at h
   split at h <;> cases h
 rw[this]; exact .start
theorem zj7t {o:List Bool} {j:Nat}:setn (bsVq o) j (.bool true)=bsVq (o.set j true):=by
 unfold bsVq
 rw[zj0e,List.map_set]
theorem zj1x (o:List Bool):(bsVq o).length=o.length:=by simp[bsVq]
theorem rep00:setn (repN 1025 [Value.bool false,Value.bool false]) 0 (Value.bool true)=bsVq o00:=by
 have h:repN 1025 [Value.bool false,Value.bool false]=bsVq (List.replicate 2050 false):=by
  apply List.ext_getElem?
  intro j
  by_cases hj:j < 2050
  ·rw[zj59 _ _ _ (by simpa using hj),zj1d (by simpa using hj)]
   have:([Value.bool false,Value.bool false])[j % 2]? = some (.bool false):=by
    rcases Nat.mod_two_eq_zero_or_one j with e | e <;> rw[e] <;> rfl
   show ([Value.bool false,Value.bool false])[j % 2]? = _
   rw[this,List.getD_eq_getElem?_getD,List.getElem?_replicate,if_pos hj]
   rfl
  ·rw[List.getElem?_eq_none (by rw[zj0n]; simp; omega),List.getElem?_eq_none (by rw[zj1x]; simp; omega)]
 rw[h,zj7t]; rfl
structure C1 where
 r:Nat
 o:List Bool
theorem is_bsv {H:List SO} {b:Bool}:∀ v,Is H (bsv b) v→Is H (.val (.bool b)) v:=by
 intro v h
 cases b <;> simpa [bsv,Is] using h
theorem pV_get (l:List Spot) (j:Nat) (z:Spot) (h:l[j]? = some z):(pV l)[j*2]? = some (.int .i64 z.1)∧(pV l)[j*2+1]? = some (.int .i64 (bI z.2)):=by
 induction l generalizing j with
 | nil=>simp at h
 | cons y r ih =>
  have hx:pV (y :: r)=.int .i64 y.1 :: .int .i64 (bI y.2) :: pV r:=rfl
  rw[hx]
  cases j with
  | zero=>simp at h; subst h; exact⟨rfl,rfl⟩
  | succ j =>
   have:=ih j (by simpa using h)
   have e1:(j+1)*2=j*2+1+1:=by omega
   rw[e1]
   simpa using this
structure C4 where
 k:Nat
 o:List Bool
 t:Bool
theorem nxt_len2 (x:In) (s:Spot):(gO x s).length≤2:=by
 unfold gO
 split
 ·have:=nxt_len x s; omega
 ·simp
structure C3 where
 j:Nat
 o:List Bool
 t:Bool
structure C2 where
 i:Nat
 o:List Bool
 t:Bool
theorem come122 (l:List In) (B:Option Addr) (bc:Nat) (which:Int) (w:World) (hl:l.length≤1024) (hB:RowAt w B (cellsI l)) (hG:ShAt w) :
  CallsV Tryz.prog 122 [.slice B l.length bc,.int .i64 which] w fun v w'=>∃ (A:Option Addr) (o:List Bool),v=.slice A 1025 1025∧OInv l which o∧Closed l which o ∧
   World.ownsB w' w.heap.size 179 2 (.slice A 1025 1025) 1025 (bsVq o)∧Fresh w w':=by
 refine zj03 (keep:=K122) (nt:=101) (svs:=[.val (.slice B l.length bc),.val (.int .i64 which)]) Tryz.func122 x122 n122 (by simp) (by simp[IsL,Is]) fun R hR=>?_
 have hB0:RowE ⟨w,w.heap.size,[],101,[]⟩ B (cellsI l):=hB.toE (by simp) 101 []
 (refine Y_go 600 ?_; dsimp only[go_sem,reduceAdd,Nat.reduceBEq,Int.reduceToNat,Nat.reduceMul])
 refine⟨⟨by omega,by omega,by omega,by omega⟩,fun g=>⟨⟨by omega,by omega⟩,⟨by omega,by omega⟩,by rw[zj0n]; decide,?_⟩⟩
 rw[rep00]
 refine zj04 (α:=C1) (fun y=>y.r≤2*l.length+1∧OInv l which y.o∧Prog l which y.o y.r) (fun _=>⟨w,w.heap.size,[],101,[]⟩) (fun y=>{ F:=[(0,.val (.slice B l.length bc)),(1,.val (.int .i64 which)),(5,.own 0 0),(6,.val (.int .i64 (y.r:Int)))],H:=[.own 179 0 2 (some ⟨g,0,none⟩) 1025 1025 (bsVq y.o)] }) (fun y=>2*l.length+1 - y.r) (fun _=>rfl) ?start1 ?round1
 case start1 =>
  intro a W rep
  exact⟨⟨0,o00⟩,⟨by simp,oinv0 l which,prog_start (oinv0 l which)⟩,rep.lq⟩
 case round1 =>
  rintro ⟨r,o⟩ ⟨hr,ho,hp⟩ I1 again1
  have hr:r≤2*l.length+1:=hr
  have ho:OInv l which o:=ho
  have hp:Prog l which o r:=hp
  (refine Y_go 600 ?_; dsimp only[go_sem,Nat.reduceBEq])
  have fin:∀ (o:List Bool) s,OInv l which o→Closed l which o→nth s.H 0=some (.own 179 0 2 (some ⟨g,0,none⟩) 1025 1025 (bsVq o))→denAll s.H s.F [4]=some [.slice (some ⟨g,0,none⟩) 1025 1025]→RetG (cxOf Tryz.prog Tryz.f122 K122 T122 R) ⟨w,w.heap.size,[],101,[]⟩ s:=fun o s h1 h2 h3 hd =>
   zj02 (vs:=_) r122 rfl hd fun W' hW'=>hR _ _ ⟨_,o,rfl,h1,h2,hW'.owns (i:=0) h3,hW'.fresh'⟩
  refine⟨2*(l.length:Int),ArOk.mul64 (by omega) (by omega),fun hlt=>?_,fun hge=>?_⟩
  ·have hlt:r≤2*l.length:=by have:=of_decide_eq_true hlt; omega
   refine zj04 (α:=C2) (fun y=>y.i≤l.length∧OInv l which y.o∧RInvQ l which o y.o y.t (2*y.i)) (fun _=>⟨w,w.heap.size,[],101,[]⟩) (fun y=>{ F:=[(0,.val (.slice B l.length bc)),(1,.val (.int .i64 which)),(5,.own 0 0),(6,.val (.int .i64 (r:Int))),(7,bsv y.t),(8,.val (.int .i64 (y.i:Int)))],H:=[.own 179 0 2 (some ⟨g,0,none⟩) 1025 1025 (bsVq y.o)] }) (fun y=>l.length - y.i) (fun _=>rfl) ?start2 ?round2
   case start2 =>
    intro a W rep
    exact⟨⟨0,o,false⟩,⟨by simp,ho,RInvQ.begin l which o⟩,rep.le (by simp only[bsv]; (simp only[go_sem,lk,Nat.reduceBEq,reduceLT,reduceAdd] <;> try simp)) (by (simp only[go_sem,lk,Nat.reduceBEq,reduceLT,reduceAdd] <;> try simp))⟩
   case round2 =>
    rintro ⟨i,o2,t⟩ ⟨hi,ho2,hri⟩ I2 again2
    have hi:i≤l.length:=hi
    have ho2:OInv l which o2:=ho2
    have hri:RInvQ l which o o2 t (2*i):=hri
    have done2:i=l.length→(t=false→Closed l which o2)∧Prog l which o2 (r+1):=fun e=>prog_round (by rw[← e]; exact hri) hp
    have loop3:i < l.length→∀ F,leF 1 F [(0,.val (.slice B l.length bc)),(1,.val (.int .i64 which)),(5,.own 0 0),(6,.val (.int .i64 (r:Int))),(7,bsv t),(8,.val (.int .i64 (i:Int))),(9,.val (.int .i64 0))]→G (cxOf Tryz.prog Tryz.f122 K122 T122 R) ⟨w,w.heap.size,[],101,[]⟩ [.code (XC.ref 8).loop,.blk 4,.blk 3,.code (.ref 9),.lend I2,.blk 2,.code (.ref 12),.blk 1,.code (.ref 14),.lend I1,.blk 0,.code (.ref 17)] { F:=F,H:=[.own 179 0 2 (some ⟨g,0,none⟩) 1025 1025 (bsVq o2)] }:=by
     intro hil F hF
     refine zj04 (α:=C3) (fun y=>y.j≤2∧OInv l which y.o∧RInvQ l which o y.o y.t (2*i+y.j)) (fun _=>⟨w,w.heap.size,[],101,[]⟩) (fun y=>{ F:=[(0,.val (.slice B l.length bc)),(1,.val (.int .i64 which)),(5,.own 0 0),(6,.val (.int .i64 (r:Int))),(7,bsv y.t),(8,.val (.int .i64 (i:Int))),(9,.val (.int .i64 (y.j:Int)))],H:=[.own 179 0 2 (some ⟨g,0,none⟩) 1025 1025 (bsVq y.o)] }) (fun y=>2 - y.j) (fun _=>rfl) ?start3 ?round3
     case start3 =>
      intro a W rep
      exact⟨⟨0,o2,t⟩,⟨by simp,ho2,hri⟩,rep.le hF (by (simp only[go_sem,lk,Nat.reduceBEq,reduceLT,reduceAdd] <;> try simp))⟩
     case round3 =>
      rintro ⟨j,o3,t3⟩ ⟨hj,ho3,hri3⟩ I3 again3
      have hj:j≤2:=hj
      have ho3:OInv l which o3:=ho3
      have hri3:RInvQ l which o o3 t3 (2*i+j):=hri3
      have hsj:j < 2→spotN (2*i+j)=((i:Int),insJ j):=fun h=>by
       unfold spotN insJ
       have:j=0∨j=1:=by omega
       rcases this with rfl | rfl
       ·ext
        ·show (((2*i+0) / 2:Nat):Int)=i; omega
        ·show decide ((2*i+0) % 2=1)=decide (0=1); simp
       ·ext
        ·show (((2*i+1) / 2:Nat):Int)=i; omega
        ·show decide ((2*i+1) % 2=1)=decide (1=1); simp
      have hx:l[i]? = some l[i]:=List.getElem?_eq_getElem hil
      generalize hxx:l[i]=x at hx
      have cl:∀ k v,k < 5→x.cells[k]? = some v→CellAt ⟨w,w.heap.size,[],101,[]⟩ B (i*5+k) v:=fun k v hk hv=>hB0.cell (by rw[zj0b l hil hk,hxx]; exact hv)
      have hBs:B.isSome=true:=hB0.isSome (j:=i*5) (by rw[zj06]; omega)
      have nextJ:j < 2→∀ (o4:List Bool) (t4:Bool) F H,OInv l which o4→RInvQ l which o o4 t4 (2*i+j+1)→leF 1 F [(0,.val (.slice B l.length bc)),(1,.val (.int .i64 which)),(5,.own 0 0),(6,.val (.int .i64 (r:Int))),(7,bsv t4),(8,.val (.int .i64 (i:Int))),(9,.val (.int .i64 ((j+1:Nat):Int)))]→(∃ rr,H=SO.own 179 0 2 (some ⟨g,0,none⟩) 1025 1025 (bsVq o4) :: rr)→G (cxOf Tryz.prog Tryz.f122 K122 T122 R) ⟨w,w.heap.size,[],101,[]⟩ [.lend I3,.blk 4,.blk 3,.code (.ref 9),.lend I2,.blk 2,.code (.ref 12),.blk 1,.code (.ref 14),.lend I1,.blk 0,.code (.ref 17)] { F:=F,H:=H }:=by
       rintro hj2 o4 t4 F H h1 h2 hF ⟨rr,rfl⟩
       exact zj00 fun a W rep=>again3 ⟨j+1,o4,t4⟩ ⟨by show j+1≤2; omega,h1,h2⟩ (by show 2 - (j+1) < 2 - j; omega) a W (rep.le hF (by (simp only[go_sem,lk,Nat.reduceBEq,reduceLT,reduceAdd] <;> try simp)))
      have hget:j < 2→(bsVq o3)[i*2+j*1]? = some (.bool (mkd o3 (spotN (2*i+j)))):=fun h=>by
       rw[zj3n,show i*2+j*1=2*i+j by omega]
       exact zj1d (by rw[ho3.len]; omega)
      have hi1:((i:Nat):Int).toNat=i:=by omega
      have hj1:((j:Nat):Int).toNat=j:=by omega
      have ways:j < 2→mkd o3 (spotN (2*i+j))=true→stopB which x=false→∀ F,leF 1 F [(0,.val (.slice B l.length bc)),(1,.val (.int .i64 which)),(5,.own 0 0),(6,.val (.int .i64 (r:Int))),(7,bsv t3),(8,.val (.int .i64 (i:Int))),(9,.val (.int .i64 (j:Int))),(55,.val (.slice B l.length bc)),(56,.val (.int .i64 (i:Int))),(57,.val (.int .i64 (j:Int)))]→G (cxOf Tryz.prog Tryz.f122 K122 T122 R) ⟨w,w.heap.size,[],101,[]⟩ [.ops [{ dst:=some 58,guard:=none,i:=XI.call 124 [Operand.tmp 55,Operand.tmp 56,Operand.tmp 57] },{ dst:=some 54,guard:=none,i:=XI.k (XK.mov (Operand.tmp 58)) },{ dst:=some 59,guard:=none,i:=XI.k (XK.ext (Operand.tmp 54) 0) },{ dst:=some 60,guard:=none,i:=XI.k (XK.ext (Operand.tmp 54) 1) },{ dst:=some 10,guard:=none,i:=XI.k (XK.mov (Operand.tmp 59)) },{ dst:=some 11,guard:=none,i:=XI.k (XK.mov (Operand.tmp 60)) }],.code (.ref 4),.blk 5,.code (.ref 6),.lend I3,.blk 4,.blk 3,.code (.ref 9),.lend I2,.blk 2,.code (.ref 12),.blk 1,.code (.ref 14),.lend I1,.blk 0,.code (.ref 17)] { F:=F,H:=[.own 179 0 2 (some ⟨g,0,none⟩) 1025 1025 (bsVq o3)] }:=by
       intro hj2 hm hst F hF
       have hbj:bI (insJ j)=(j:Int):=by
        have:j=0∨j=1:=by omega
        rcases this with rfl | rfl <;> rfl
       have hsp:=hsj hj2
       refine G.le (E':=⟨w,w.heap.size,[],101,[]⟩) (s':={ F:=[(0,.val (.slice B l.length bc)),(1,.val (.int .i64 which)),(5,.own 0 0),(6,.val (.int .i64 (r:Int))),(7,.val (.bool t3)),(8,.val (.int .i64 (i:Int))),(9,.val (.int .i64 (j:Int))),(55,.val (.slice B l.length bc)),(56,.val (.int .i64 (i:Int))),(57,.val (.int .i64 (j:Int)))],H:=[.own 179 0 2 (some ⟨g,0,none⟩) 1025 1025 (bsVq o3)] }) rfl (fun a W rep=>(zj79 7 (rep.le (s':={ F:=[(0,.val (.slice B l.length bc)),(1,.val (.int .i64 which)),(5,.own 0 0),(6,.val (.int .i64 (r:Int))),(7,bsv t3),(8,.val (.int .i64 (i:Int))),(9,.val (.int .i64 (j:Int))),(55,.val (.slice B l.length bc)),(56,.val (.int .i64 (i:Int))),(57,.val (.int .i64 (j:Int)))],H:=[.own 179 0 2 (some ⟨g,0,none⟩) 1025 1025 (bsVq o3)] }) hF (by (simp only[go_sem,lk,Nat.reduceBEq,reduceLT,reduceAdd] <;> try simp))) rfl is_bsv).lq) ?_
       refine zj07 (vs:=[.slice B l.length bc,.int .i64 (i:Int),.int .i64 (j:Int)]) rfl (R:=fun W v W'=>∃ (A:Option Addr) (c:Nat),v=.tuple #[.slice A (goesQ x ((i:Int),insJ j)).length c,.bool true]∧World.ownsB W' W.heap.size 185 2 (.slice A (goesQ x ((i:Int),insJ j)).length c) (goesQ x ((i:Int),insJ j)).length (pV (goesQ x ((i:Int),insJ j)))∧Fresh W W') (fun W hW=>by
        have:=goes124 l B bc i (insJ j) x W hx hl (hB.keep hW.fresh') (hG.keep hW.fresh')
        rw[hbj] at this; exact this) fun W v W' hW ⟨A,c,hv,hown,hk⟩=>?_
       obtain⟨A',c',e1,e2,e5,_⟩:=hW.gain hown hk
       injection e1 with e3 _ e4
       subst e3; subst e4; subst hv
       refine⟨.tup [.own 1 0,.bt],_,?_,e2,e5,?_⟩
       ·simp only[Is,IsL]; exact⟨_,⟨_,_,⟨_,_,_,_,_,_,_,rfl,Nat.le_refl _,⟨_,_,_,rfl⟩,fun _=>rfl⟩,⟨_,_,rfl,rfl,rfl⟩,rfl⟩,rfl⟩
       (refine Y_go 600 ?_; dsimp only[go_sem,Nat.reduceBEq])
       have hgs:goesQ x ((i:Int),insJ j)=gO x (spotN (2*i+j)):=by rw[hsp]; rfl
       have hgl:(gO x (spotN (2*i+j))).length≤2:=nxt_len2 _ _
       rw[hgs]
       generalize hgss:gO x (spotN (2*i+j))=gs at hgl
       have hk0:2*i+j < 2*l.length:=by omega
       have hxk:l[(spotN (2*i+j)).1.toNat]? = some x:=by rw[hsp]; show l[((i:Nat):Int).toNat]? = _; rw[hi1]; exact hx
       refine zj04 (α:=C4) (fun y=>y.k≤gs.length∧OInv l which y.o∧RInvQ l which o y.o y.t (2*i+j)∧mkd y.o (spotN (2*i+j))=true∧∀ m z,m < y.k→gs[m]? = some z→mkd y.o z=true) (fun _=>⟨w,w.heap.size,[],101,[]⟩) (fun y=>{ F:=[(0,.val (.slice B l.length bc)),(1,.val (.int .i64 which)),(5,.own 0 0),(6,.val (.int .i64 (r:Int))),(7,bsv y.t),(8,.val (.int .i64 (i:Int))),(9,.val (.int .i64 (j:Int))),(10,.own 1 0),(12,.val (.int .i64 (y.k:Int)))],H:=[.own 179 0 2 (some ⟨g,0,none⟩) 1025 1025 (bsVq y.o),.own 185 0 2 A gs.length c (pV gs)] }) (fun y=>gs.length - y.k) (fun _=>rfl) ?start4 ?round4
       case start4 =>
        intro a W rep
        exact⟨⟨0,o3,t3⟩,⟨by simp,ho3,hri3,hm,fun m z h=>absurd h (Nat.not_lt_zero _)⟩,(zj1l 7 rep rfl).le (by cases t3 <;> (simp only[bsv]; (simp only[go_sem,lk,Nat.reduceBEq,reduceLT,reduceAdd] <;> try simp))) (by (simp only[go_sem,lk,Nat.reduceBEq,reduceLT,reduceAdd] <;> try simp))⟩
       case round4 =>
        rintro ⟨k,o5,t5⟩ ⟨hkl,ho5,hri5,hm5,hd5⟩ I4 again4
        have hkl:k≤gs.length:=hkl
        have ho5:OInv l which o5:=ho5
        have hri5:RInvQ l which o o5 t5 (2*i+j):=hri5
        have hm5:mkd o5 (spotN (2*i+j))=true:=hm5
        have hd5:∀ m z,m < k→gs[m]? = some z→mkd o5 z=true:=hd5
        cases t5
        all_goals simp only[bsv]
        all_goals (refine Y_go 10 ?_; dsimp only[go_sem,Nat.reduceBEq,Y_0])
        all_goals refine⟨fun hkk=>?_,fun hkk=>?_⟩
        ·have hkk:k < gs.length:=by have:=of_decide_eq_true hkk; omega
         have hz:gs[k]? = some gs[k]:=List.getElem?_eq_getElem hkk
         generalize hzz:gs[k]=z at hz
         have hzm:z ∈ gO x (spotN (2*i+j)):=by rw[hgss]; exact List.mem_of_getElem? hz
         have hzr:=zj7s hl (show (0:Int)≤(spotN (2*i+j)).1 by rw[hsp]; show (0:Int)≤(i:Int); omega) hxk hzm
         have hpz:=pV_get gs k z hz
         have hixl:ixS z < o5.length:=by rw[ho5.len]; exact ixS_lt hzr.2 hzr.1
         have hk1:((k:Nat):Int).toNat=k:=by omega
         have hbz:0≤bI z.2∧bI z.2 < 2:=by cases z.2 <;> decide
         have hix:z.1.toNat*2+(bI z.2).toNat*1=ixS z:=by unfold ixS; cases z.2 <;> rfl
         have hlen:ixS z+1≤(bsVq o5).length:=by rw[zj1x]; omega
         have nx:∀ t6,RInvQ l which o (mk1 o5 z) t6 (2*i+j)→∀ F H,leF 2 F [(0,.val (.slice B l.length bc)),(1,.val (.int .i64 which)),(5,.own 0 0),(6,.val (.int .i64 (r:Int))),(7,bsv t6),(8,.val (.int .i64 (i:Int))),(9,.val (.int .i64 (j:Int))),(10,.own 1 0),(12,.val (.int .i64 ((k+1:Nat):Int)))]→(∃ rr,H=SO.own 179 0 2 (some ⟨g,0,none⟩) 1025 1025 (bsVq (mk1 o5 z)) :: SO.own 185 0 2 A gs.length c (pV gs) :: rr)→G (cxOf Tryz.prog Tryz.f122 K122 T122 R) ⟨w,w.heap.size,[],101,[]⟩ [.lend I4,.blk 6,.blk 5,.code (.ref 6),.lend I3,.blk 4,.blk 3,.code (.ref 9),.lend I2,.blk 2,.code (.ref 12),.blk 1,.code (.ref 14),.lend I1,.blk 0,.code (.ref 17)] { F:=F,H:=H }:=by
          rintro t6 hr6 F H hF ⟨rr,rfl⟩
          refine zj00 fun a W rep=>again4 ⟨k+1,mk1 o5 z,t6⟩ ⟨by show k+1≤_; omega,ho5.mark hxk hst hm5 hzm hzr.1 hixl,hr6,(zj2g o5 z).2 _ hm5,fun m y hmk hy=>?_⟩ (by show gs.length - (k+1) < gs.length - k; omega) a W (rep.le hF (by (simp only[go_sem,lk,Nat.reduceBEq,reduceLT,reduceAdd] <;> try simp)))
          rcases Nat.lt_or_ge m k with h | h
          ·exact (zj2g o5 z).2 _ (hd5 m y h hy)
          ·have:m=k:=by have:m < k+1:=hmk; omega
           subst this
           rw[hz] at hy; injection hy with hy; subst hy
           exact (mkd_mk1 hixl hzr.1 hzr.1).2 (.inl rfl)
         have hmark:=hri5.mark hk0 hxk hst hm5 hzm hzr.1 hixl
         (refine Y_go 600 ?_; dsimp only[go_sem,Nat.reduceBEq,Int.reduceToNat,Nat.reduceMul])
         rw[hk1]
         refine⟨⟨by omega,by omega⟩,⟨by omega,by omega⟩,z.1,hpz.1,⟨by omega,by omega⟩,⟨by omega,by omega⟩,bI z.2,hpz.2,⟨hzr.1,by omega⟩,hbz,mkd o5 z,by rw[hix]; exact zj1d hixl,⟨by omega,by omega⟩,⟨by omega,by omega⟩,z.1,hpz.1,⟨by omega,by omega⟩,⟨by omega,by omega⟩,bI z.2,hpz.2,⟨hzr.1,by omega⟩,hbz,by rw[hix]; exact hlen,((k+1:Nat):Int),ArOk.to (by omega) (by omega) (by omega),?_⟩
         rw[hix,zj7t]
         refine G.le (E':=⟨w,w.heap.size,[],101,[]⟩) rfl (fun a W rep=>zj1l 7 rep rfl) (nx (!mkd o5 z) (by simpa using hmark) _ _ (by generalize (!mkd o5 z)=q; cases q <;> (simp only[bsv]; (simp only[go_sem,lk,Nat.reduceBEq,reduceLT,reduceAdd] <;> try simp))) ⟨_,rfl⟩)
        ·have hkk:k=gs.length:=by have h9:=of_decide_eq_false hkk; have h8:k≤gs.length:=hkl; clear again1 again2 again3 again4 nextJ; omega
         (refine Y_go 600 ?_; dsimp only[go_sem,Nat.reduceBEq])
         refine⟨((j+1:Nat):Int),ArOk.to (by omega) (by omega) (by omega),nextJ hj2 o5 _ _ _ ho5 (hri5.next fun _ y hy hsty n hn=>?_) (by simp only[bsv]; (simp only[go_sem,lk,Nat.reduceBEq,reduceLT,reduceAdd] <;> try simp)) ⟨_,rfl⟩⟩
         rw[hxk] at hy
         injection hy with hy
         subst hy
         rw[hgss] at hn
         obtain⟨m,hm,hmn⟩:=List.mem_iff_getElem.1 hn
         exact hd5 m n (by show m < k; omega) (by rw[List.getElem?_eq_getElem hm,hmn])
        ·have hkk:k < gs.length:=by have:=of_decide_eq_true hkk; omega
         have hz:gs[k]? = some gs[k]:=List.getElem?_eq_getElem hkk
         generalize hzz:gs[k]=z at hz
         have hzm:z ∈ gO x (spotN (2*i+j)):=by rw[hgss]; exact List.mem_of_getElem? hz
         have hzr:=zj7s hl (show (0:Int)≤(spotN (2*i+j)).1 by rw[hsp]; show (0:Int)≤(i:Int); omega) hxk hzm
         have hpz:=pV_get gs k z hz
         have hixl:ixS z < o5.length:=by rw[ho5.len]; exact ixS_lt hzr.2 hzr.1
         have hk1:((k:Nat):Int).toNat=k:=by omega
         have hbz:0≤bI z.2∧bI z.2 < 2:=by cases z.2 <;> decide
         have hix:z.1.toNat*2+(bI z.2).toNat*1=ixS z:=by unfold ixS; cases z.2 <;> rfl
         have hlen:ixS z+1≤(bsVq o5).length:=by rw[zj1x]; omega
         have nx:∀ t6,RInvQ l which o (mk1 o5 z) t6 (2*i+j)→∀ F H,leF 2 F [(0,.val (.slice B l.length bc)),(1,.val (.int .i64 which)),(5,.own 0 0),(6,.val (.int .i64 (r:Int))),(7,bsv t6),(8,.val (.int .i64 (i:Int))),(9,.val (.int .i64 (j:Int))),(10,.own 1 0),(12,.val (.int .i64 ((k+1:Nat):Int)))]→(∃ rr,H=SO.own 179 0 2 (some ⟨g,0,none⟩) 1025 1025 (bsVq (mk1 o5 z)) :: SO.own 185 0 2 A gs.length c (pV gs) :: rr)→G (cxOf Tryz.prog Tryz.f122 K122 T122 R) ⟨w,w.heap.size,[],101,[]⟩ [.lend I4,.blk 6,.blk 5,.code (.ref 6),.lend I3,.blk 4,.blk 3,.code (.ref 9),.lend I2,.blk 2,.code (.ref 12),.blk 1,.code (.ref 14),.lend I1,.blk 0,.code (.ref 17)] { F:=F,H:=H }:=by
          rintro t6 hr6 F H hF ⟨rr,rfl⟩
          refine zj00 fun a W rep=>again4 ⟨k+1,mk1 o5 z,t6⟩ ⟨by show k+1≤_; omega,ho5.mark hxk hst hm5 hzm hzr.1 hixl,hr6,(zj2g o5 z).2 _ hm5,fun m y hmk hy=>?_⟩ (by show gs.length - (k+1) < gs.length - k; omega) a W (rep.le hF (by (simp only[go_sem,lk,Nat.reduceBEq,reduceLT,reduceAdd] <;> try simp)))
          rcases Nat.lt_or_ge m k with h | h
          ·exact (zj2g o5 z).2 _ (hd5 m y h hy)
          ·have:m=k:=by have:m < k+1:=hmk; omega
           subst this
           rw[hz] at hy; injection hy with hy; subst hy
           exact (mkd_mk1 hixl hzr.1 hzr.1).2 (.inl rfl)
         have hmark:=hri5.mark hk0 hxk hst hm5 hzm hzr.1 hixl
         (refine Y_go 600 ?_; dsimp only[go_sem,Nat.reduceBEq,Int.reduceToNat,Nat.reduceMul])
         rw[hk1]
         refine⟨⟨by omega,by omega⟩,⟨by omega,by omega⟩,z.1,hpz.1,⟨by omega,by omega⟩,⟨by omega,by omega⟩,bI z.2,hpz.2,⟨hzr.1,by omega⟩,hbz,by rw[hix]; exact hlen,((k+1:Nat):Int),ArOk.to (by omega) (by omega) (by omega),?_⟩
         rw[hix,zj7t]
         exact nx true (by simpa using hmark) _ _ (by simp only[bsv]; (simp only[go_sem,lk,Nat.reduceBEq,reduceLT,reduceAdd] <;> try simp)) ⟨_,rfl⟩
        ·have hkk:k=gs.length:=by have h9:=of_decide_eq_false hkk; have h8:k≤gs.length:=hkl; clear again1 again2 again3 again4 nextJ; omega
         (refine Y_go 600 ?_; dsimp only[go_sem,Nat.reduceBEq])
         refine⟨((j+1:Nat):Int),ArOk.to (by omega) (by omega) (by omega),nextJ hj2 o5 _ _ _ ho5 (hri5.next fun _ y hy hsty n hn=>?_) (by simp only[bsv]; (simp only[go_sem,lk,Nat.reduceBEq,reduceLT,reduceAdd] <;> try simp)) ⟨_,rfl⟩⟩
         rw[hxk] at hy
         injection hy with hy
         subst hy
         rw[hgss] at hn
         obtain⟨m,hm,hmn⟩:=List.mem_iff_getElem.1 hn
         exact hd5 m n (by show m < k; omega) (by rw[List.getElem?_eq_getElem hm,hmn])
      cases t3
      all_goals simp only[bsv]
      all_goals (refine Y_go 10 ?_; dsimp only[go_sem,Nat.reduceBEq,Y_0])
      all_goals refine⟨fun hjl=>?_,fun hjl=>?_⟩
      ·have hjl:j < 2:=by have:=of_decide_eq_true hjl; omega
       (refine Y_go 600 ?_; dsimp only[go_sem,Nat.reduceBEq])
       rw[hi1,hj1]
       refine⟨⟨by omega,by omega⟩,⟨by omega,by omega⟩,_,hget hjl,fun hb=>?_,fun hb=>⟨fun hw=>?_,fun hw=>?_⟩⟩
       ·have hb:mkd o3 (spotN (2*i+j))=false:=by simpa using hb
        exact⟨((j+1:Nat):Int),ArOk.to (by omega) (by omega) (by omega),nextJ hjl o3 _ _ _ ho3 (hri3.next fun h=>by rw[hb] at h; cases h) (by simp only[bsv]; (simp only[go_sem,lk,Nat.reduceBEq,reduceLT,reduceAdd] <;> try simp)) ⟨_,rfl⟩⟩
       ·have hb:mkd o3 (spotN (2*i+j))=true:=by simpa using hb
        have hw:=of_decide_eq_true hw
        refine⟨⟨by omega,by omega,hBs⟩,_,cl 0 _ (by omega) rfl,_,cl 1 _ (by omega) rfl,_,cl 2 _ (by omega) rfl,_,cl 3 _ (by omega) rfl,_,cl 4 _ (by omega) rfl,?_⟩
        refine zj01 (vs:=[In.val x]) rfl (fun W hW=>sets146 x W) fun v hv=>⟨.val (.int .i64 (setsI x)),by rw[hv]; simp[Is],?_⟩
        (refine Y_go 600 ?_; dsimp only[go_sem,Nat.reduceBEq])
        refine⟨fun hs=>?_,fun hs=>?_⟩
        ·have hs:setsI x=which:=by simpa using hs
         refine⟨((j+1:Nat):Int),ArOk.to (by omega) (by omega) (by omega),nextJ hjl o3 _ _ _ ho3 (hri3.next fun _ y hy hsty=>?_) (by simp only[bsv]; (simp only[go_sem,lk,Nat.reduceBEq,reduceLT,reduceAdd] <;> try simp)) ⟨_,rfl⟩⟩
         rw[hsj hjl,hi1,hx] at hy
         injection hy with hy
         subst hy
         exfalso
         unfold stopB at hsty
         simp[hs] at hsty
         omega
        ·have hs:¬ setsI x=which:=by simpa using hs
         exact ways hjl hb (by unfold stopB; simp[hs]) _ (by simp only[bsv]; (simp only[go_sem,lk,Nat.reduceBEq,reduceLT,reduceAdd] <;> try simp))
       ·have hb:mkd o3 (spotN (2*i+j))=true:=by simpa using hb
        have hw:=of_decide_eq_false hw
        exact ways hjl hb (by unfold stopB; simp; omega) _ (by simp only[bsv]; (simp only[go_sem,lk,Nat.reduceBEq,reduceLT,reduceAdd] <;> try simp))
      ·have hjl:j=2:=by have:=of_decide_eq_false hjl; omega
       subst hjl
       (refine Y_go 600 ?_; dsimp only[go_sem,Nat.reduceBEq])
       exact⟨((i+1:Nat):Int),ArOk.to (by omega) (by omega) (by omega),zj00 fun a W rep=>again2 ⟨i+1,o3,false⟩ ⟨by show i+1≤_; omega,ho3,hri3⟩ (by show l.length - (i+1) < l.length - i; omega) a W (rep.le (by simp only[bsv]; (simp only[go_sem,lk,Nat.reduceBEq,reduceLT,reduceAdd] <;> try simp)) (by (simp only[go_sem,lk,Nat.reduceBEq,reduceLT,reduceAdd] <;> try simp)))⟩
      ·have hjl:j < 2:=by have:=of_decide_eq_true hjl; omega
       (refine Y_go 600 ?_; dsimp only[go_sem,Nat.reduceBEq])
       rw[hi1,hj1]
       refine⟨⟨by omega,by omega⟩,⟨by omega,by omega⟩,_,hget hjl,fun hb=>?_,fun hb=>⟨fun hw=>?_,fun hw=>?_⟩⟩
       ·have hb:mkd o3 (spotN (2*i+j))=false:=by simpa using hb
        exact⟨((j+1:Nat):Int),ArOk.to (by omega) (by omega) (by omega),nextJ hjl o3 _ _ _ ho3 (hri3.next fun h=>by rw[hb] at h; cases h) (by simp only[bsv]; (simp only[go_sem,lk,Nat.reduceBEq,reduceLT,reduceAdd] <;> try simp)) ⟨_,rfl⟩⟩
       ·have hb:mkd o3 (spotN (2*i+j))=true:=by simpa using hb
        have hw:=of_decide_eq_true hw
        refine⟨⟨by omega,by omega,hBs⟩,_,cl 0 _ (by omega) rfl,_,cl 1 _ (by omega) rfl,_,cl 2 _ (by omega) rfl,_,cl 3 _ (by omega) rfl,_,cl 4 _ (by omega) rfl,?_⟩
        refine zj01 (vs:=[In.val x]) rfl (fun W hW=>sets146 x W) fun v hv=>⟨.val (.int .i64 (setsI x)),by rw[hv]; simp[Is],?_⟩
        (refine Y_go 600 ?_; dsimp only[go_sem,Nat.reduceBEq])
        refine⟨fun hs=>?_,fun hs=>?_⟩
        ·have hs:setsI x=which:=by simpa using hs
         refine⟨((j+1:Nat):Int),ArOk.to (by omega) (by omega) (by omega),nextJ hjl o3 _ _ _ ho3 (hri3.next fun _ y hy hsty=>?_) (by simp only[bsv]; (simp only[go_sem,lk,Nat.reduceBEq,reduceLT,reduceAdd] <;> try simp)) ⟨_,rfl⟩⟩
         rw[hsj hjl,hi1,hx] at hy
         injection hy with hy
         subst hy
         exfalso
         unfold stopB at hsty
         simp[hs] at hsty
         omega
        ·have hs:¬ setsI x=which:=by simpa using hs
         exact ways hjl hb (by unfold stopB; simp[hs]) _ (by simp only[bsv]; (simp only[go_sem,lk,Nat.reduceBEq,reduceLT,reduceAdd] <;> try simp))
       ·have hb:mkd o3 (spotN (2*i+j))=true:=by simpa using hb
        have hw:=of_decide_eq_false hw
        exact ways hjl hb (by unfold stopB; simp; omega) _ (by simp only[bsv]; (simp only[go_sem,lk,Nat.reduceBEq,reduceLT,reduceAdd] <;> try simp))
      ·have hjl:j=2:=by have:=of_decide_eq_false hjl; omega
       subst hjl
       (refine Y_go 600 ?_; dsimp only[go_sem,Nat.reduceBEq])
       exact⟨((i+1:Nat):Int),ArOk.to (by omega) (by omega) (by omega),zj00 fun a W rep=>again2 ⟨i+1,o3,true⟩ ⟨by show i+1≤_; omega,ho3,hri3⟩ (by show l.length - (i+1) < l.length - i; omega) a W (rep.le (by simp only[bsv]; (simp only[go_sem,lk,Nat.reduceBEq,reduceLT,reduceAdd] <;> try simp)) (by (simp only[go_sem,lk,Nat.reduceBEq,reduceLT,reduceAdd] <;> try simp)))⟩
    cases t
    all_goals simp only[bsv]
    all_goals (refine Y_go 10 ?_; dsimp only[go_sem,Nat.reduceBEq,Y_0])
    ·refine⟨fun hil=>?_,fun hil=>?_⟩
     ·have hil:i < l.length:=by have:=of_decide_eq_true hil; omega
      (refine Y_go 600 ?_; dsimp only[go_sem,Nat.reduceBEq])
      exact loop3 hil _ (by simp only[bsv]; (simp only[go_sem,lk,Nat.reduceBEq,reduceLT,reduceAdd] <;> try simp))
     ·have hil:i=l.length:=by have:=of_decide_eq_false hil; omega
      (refine Y_go 600 ?_; dsimp only[go_sem,Nat.reduceBEq])
      exact fin o2 _ ho2 ((done2 hil).1 rfl) rfl rfl
    ·refine⟨fun hil=>?_,fun hil=>?_⟩
     ·have hil:i < l.length:=by have:=of_decide_eq_true hil; omega
      (refine Y_go 600 ?_; dsimp only[go_sem,Nat.reduceBEq])
      exact loop3 hil _ (by simp only[bsv]; (simp only[go_sem,lk,Nat.reduceBEq,reduceLT,reduceAdd] <;> try simp))
     ·have hil:i=l.length:=by have:=of_decide_eq_false hil; omega
      (refine Y_go 600 ?_; dsimp only[go_sem,Nat.reduceBEq])
      exact⟨((r+1:Nat):Int),ArOk.to (by omega) (by omega) (by omega),zj00 fun a W rep=>again1 ⟨r+1,o2⟩ ⟨by show r+1≤_; omega,ho2,(done2 hil).2⟩ (by show 2*l.length+1 - (r+1) < 2*l.length+1 - r; omega) a W (rep.lq)⟩
  ·have hge:2*l.length < r:=by have:=of_decide_eq_false hge; omega
   have hcl:Closed l which o:=by
    rcases hp with h | h
    ·exact h
    ·have:=cntS_le (2*l.length) o; omega
   exact fin o _ ho hcl rfl rfl
end Go.Proofs.YtlbiogokpadaoaaGreatDoor
