/- The engine, part 1: symbolic values, symbolic heap entries, what they say of a world, and how they are kept. -/
import Derived.OrdersIn
import Derived.TacticsIn
import Derived.RangeFuncLeaves
import Derived.RangeFuncCalls
import Derived.Maps.AppendAt
import Derived.Laws.OwnMore
import Derived.Below
set_option linter.unusedSimpArgs false
set_option linter.unusedVariables false
set_option linter.unnecessarySimpa false
namespace Go.Sx
def WF (r:Option Nat):Fence:={ Fence.wide with round:=r }
theorem zj15 {r:Option Nat} {n:Nat} {P:Program} {f:FuncId} {args:Array Value} {w:World} {R:Ending→World→Prop} :
  CallsIn (WF r) n P f args w R ↔ Calls P f args w R:=callsIn_wide
inductive SV where
 | unk
 | val (v:Value)
 | opq (v:Value) (h:v.oneCell'=true)
 | bt
 | bf
 | ptr (i off:Nat)
 | adr (A:Option Addr) (off:Nat)
 | slc (i off n c:Nat)
 | own (i ver:Nat)
 | oad (i ver off:Nat)
 | mp (i:Nat)
 | agg (l:List SV)
 | tup (l:List SV)
 | fn (f:Fn) (first captured:List SV)
inductive SO where
 | cells (g:Nat) (t:TypeId) (l:List SV)
 | row (g:Nat) (t:TypeId) (xs:List Value)
 | own (t:TypeId) (ver sz:Nat) (A:Option Addr) (n c:Nat) (xs:List Value)
 | map (g:Nat) (l:List (Value × Value))
 | obj (g:Nat) (o:Obj)
 | gone (g:Nat)
 | frz (g:Nat) (t:TypeId) (xs:List Value)
def nth {α:Type}:List α→Nat→Option α
 | [],_=>none
 | x :: _,0=>some x
 | _ :: l,n+1=>nth l n
def setn {α:Type}:List α→Nat→α→List α
 | [],_,_=>[]
 | _ :: l,0,y=>y :: l
 | x :: l,n+1,y=>x :: setn l n y
theorem nth_eq {α:Type}:∀ (l:List α) (i:Nat),nth l i=l[i]?
 | [],i=>by simp[nth]
 | x :: l,0=>by simp[nth]
 | x :: l,n+1=>by simp[nth,nth_eq l n]
theorem zj0k {α:Type}:∀ (l:List α) (i:Nat) (y:α),setn l i y=l.set i y
 | [],i,y=>by simp[setn]
 | x :: l,0,y=>by simp[setn]
 | x :: l,n+1,y=>by simp[setn,zj0k l n]
theorem nth_lt {α:Type} {l:List α} {i:Nat} {x:α} (h:nth l i=some x):i < l.length:=by
 rw[nth_eq] at h; exact (List.getElem?_eq_some_iff.1 h).1
theorem zj04 {α:Type} {l l':List α} {i:Nat} {x:α} (h:nth l i=some x):nth (l++l') i=some x:=by
 have hl:=nth_lt h
 rw[nth_eq] at *; rw[List.getElem?_append_left hl]; exact h
theorem zj0f {α:Type} {l:List α} {i j:Nat} (y:α) (h:i ≠ j):nth (setn l i y) j=nth l j:=by
 rw[nth_eq,nth_eq,zj0k,List.getElem?_set_ne h]
theorem zj0i {α:Type} {l:List α} {i:Nat} (y:α) (h:i < l.length):nth (setn l i y) i=some y:=by
 rw[nth_eq,zj0k,List.getElem?_set_self h]
def SO.blk:SO→Option Nat
 | .cells g _ _ | .row g _ _ | .map g _ | .obj g _ | .gone g | .frz g _ _=>some g
 | .own ..=>none
def SO.fp:SO→Option Nat
 | .cells g _ _ | .row g _ _ | .map g _ | .obj g _ | .frz g _ _=>some g
 | .own _ _ _ A _ _ _=>A.map (·.block)
 | .gone _=>none
def blk (H:List SO) (i:Nat):Option Nat :=
 match nth H i with
 | some (.cells g _ _) | some (.row g _ _) | some (.map g _) | some (.obj g _) | some (.gone g) | some (.frz g _ _)=>some g
 | _=>none
theorem blk_eq (H:List SO) (i:Nat):blk H i=(nth H i).bind SO.blk:=by
 unfold blk
 cases nth H i with
 | none=>rfl
 | some e=>cases e <;> rfl
mutual
def Is (H:List SO):SV→Value→Prop
 | .unk,_=>True
 | .val u,v=>v=u
 | .opq u _,v=>v=u
 | .bt,v=>v=.bool true
 | .bf,v=>v=.bool false
 | .ptr i off,v=>∃ g,blk H i=some g∧v=.pointer (some ⟨g,off,none⟩)
 | .adr A off,v=>v=.pointer (A.map (·.add off))
 | .slc i off n c,v=>∃ g,blk H i=some g∧v=.slice (some ⟨g,off,none⟩) n c
 | .own i ver,v=>∃ t ver' sz A n c xs,nth H i=some (.own t ver' sz A n c xs)∧ver≤ver'∧(∃ A0 n0 c0,v=.slice A0 n0 c0)∧(ver'=ver→v=.slice A n c)
 | .oad i ver off,v=>∃ t ver' sz A n c xs,nth H i=some (.own t ver' sz A n c xs)∧ver≤ver'∧(∃ p,v=.pointer p)∧(ver'=ver→∃ A',A=some A'∧v=.pointer (some (A'.add off)))
 | .mp i,v=>∃ g,blk H i=some g∧v=.map (some g)
 | .agg l,v=>∃ vs,IsL H l vs∧v=.agg vs.toArray
 | .tup l,v=>∃ vs,IsL H l vs∧v=.tuple vs.toArray
 | .fn f a b,v=>∃ x y,IsL H a x∧IsL H b y∧v=.func f x.toArray y.toArray
def IsL (H:List SO):List SV→List Value→Prop
 | [],vs=>vs=[]
 | s :: l,vs=>∃ v r,Is H s v∧IsL H l r∧vs=v :: r
end
mutual
def den (H:List SO):SV→Option Value
 | .unk=>none
 | .val v=>some v
 | .opq v _=>some v
 | .bt=>some (.bool true)
 | .bf=>some (.bool false)
 | .ptr i off=>match blk H i with | some g=>some (.pointer (some ⟨g,off,none⟩)) | none=>none
 | .adr A off=>some (.pointer (A.map (·.add off)))
 | .slc i off n c=>match blk H i with | some g=>some (.slice (some ⟨g,off,none⟩) n c) | none=>none
 | .own i ver=>match nth H i with | some (.own _ ver' _ A n c _)=>(match ver' == ver with | true=>some (.slice A n c) | false=>none) | _=>none
 | .oad i ver off=>match nth H i with | some (.own _ ver' _ A _ _ _)=>(match ver' == ver,A with | true,some A'=>some (.pointer (some (A'.add off))) | _,_=>none) | _=>none
 | .mp i=>match blk H i with | some g=>some (.map (some g)) | none=>none
 | .agg l=>match denL H l with | some vs=>some (.agg vs.toArray) | none=>none
 | .tup l=>match denL H l with | some vs=>some (.tuple vs.toArray) | none=>none
 | .fn f a b=>match denL H a,denL H b with | some x,some y=>some (.func f x.toArray y.toArray) | _,_=>none
def denL (H:List SO):List SV→Option (List Value)
 | []=>some []
 | s :: l=>match den H s,denL H l with | some v,some vs=>some (v :: vs) | _,_=>none
end
mutual
theorem den_is {H:List SO}:∀ (s:SV) {u v:Value},den H s=some u→Is H s v→v=u
 | .unk,_,_,h,_=>by simp[den] at h
 | .val _,_,_,h,k=>by simp[den] at h; simp[Is] at k; rw[k,h]
 | .opq _ _,_,_,h,k=>by simp[den] at h; simp[Is] at k; rw[k,h]
 | .bt,_,_,h,k=>by simp[den] at h; simp[Is] at k; rw[k,h]
 | .bf,_,_,h,k=>by simp[den] at h; simp[Is] at k; rw[k,h]
 | .ptr i off,_,_,h,k=>by
  simp only[Is] at k; obtain⟨g,hg,rfl⟩:=k; simp[den,hg] at h; exact h
 | .adr A off,_,_,h,k=>by simp[den] at h; simp[Is] at k; rw[k,h]
 | .slc i off n c,_,_,h,k=>by
  simp only[Is] at k; obtain⟨g,hg,rfl⟩:=k; simp[den,hg] at h; exact h
 | .own i ver,_,_,h,k=>by
  simp only[Is] at k; obtain⟨t,ver',sz,A,n,c,xs,he,_,_,hv⟩:=k
  simp only[den,he] at h
  cases hb:ver' == ver with
  | true=>simp[hb] at h; rw[← h]; exact hv (by simpa using hb)
  | false=>simp[hb] at h
 | .oad i ver off,_,_,h,k=>by
  simp only[Is] at k; obtain⟨t,ver',sz,A,n,c,xs,he,_,_,hv⟩:=k
  simp only[den,he] at h
  cases hb:ver' == ver with
  | true =>
   obtain⟨A',rfl,hv'⟩:=hv (by simpa using hb)
   simp[hb] at h; rw[← h]; exact hv'
  | false=>simp[hb] at h
 | .mp i,_,_,h,k=>by
  simp only[Is] at k; obtain⟨g,hg,rfl⟩:=k; simp[den,hg] at h; exact h
 | .agg l,_,_,h,k=>by
  simp only[Is] at k; obtain⟨vs,hv,rfl⟩:=k
  simp only[den] at h
  cases hl:denL H l with
  | none=>simp[hl] at h
  | some us=>simp[hl] at h; rw[← h,zj0t l hl hv]
 | .tup l,_,_,h,k=>by
  simp only[Is] at k; obtain⟨vs,hv,rfl⟩:=k
  simp only[den] at h
  cases hl:denL H l with
  | none=>simp[hl] at h
  | some us=>simp[hl] at h; rw[← h,zj0t l hl hv]
 | .fn f a b,_,_,h,k=>by
  simp only[Is] at k; obtain⟨x,y,hx,hy,rfl⟩:=k
  simp only[den] at h
  cases ha:denL H a with
  | none=>simp[ha] at h
  | some us =>
   cases hb:denL H b with
   | none=>simp[ha,hb] at h
   | some ws=>simp[ha,hb] at h; rw[← h,zj0t a ha hx,zj0t b hb hy]
theorem zj0t {H:List SO}:∀ (l:List SV) {us vs:List Value},denL H l=some us→IsL H l vs→vs=us
 | [],_,_,h,k=>by simp[denL] at h; simp[IsL] at k; rw[k,h]
 | s :: l,_,_,h,k=>by
  simp only[IsL] at k; obtain⟨v,r,hv,hr,rfl⟩:=k
  simp only[denL] at h
  cases hs:den H s with
  | none=>simp[hs] at h
  | some u =>
   cases hl:denL H l with
   | none=>simp[hs,hl] at h
   | some us=>simp[hs,hl] at h; rw[← h,den_is s hs hv,zj0t l hl hr]
end
structure HExt (H H':List SO):Prop where
 blk:∀ i g,blk H i=some g→blk H' i=some g
 own:∀ i t ver sz A n c xs,nth H i=some (.own t ver sz A n c xs)→∃ t' ver' sz' A' n' c' xs',nth H' i=some (.own t' ver' sz' A' n' c' xs')∧ver≤ver'∧(ver'=ver→A'=A∧n'=n∧c'=c)
theorem HExt.refl (H:List SO):HExt H H:=⟨fun _ _ h=>h,fun _ _ _ _ _ _ _ _ h=>⟨_,_,_,_,_,_,_,h,Nat.le_refl _,fun _=>⟨rfl,rfl,rfl⟩⟩⟩
mutual
theorem Is.ext {H H':List SO} (x:HExt H H'):∀ (s:SV) {v:Value},Is H s v→Is H' s v
 | .unk,_,_=>by simp[Is]
 | .val _,_,h=>by simpa [Is] using h
 | .opq _ _,_,h=>by simpa [Is] using h
 | .bt,_,h=>by simpa [Is] using h
 | .bf,_,h=>by simpa [Is] using h
 | .ptr i off,_,h=>by simp only[Is] at *; obtain⟨g,hg,hv⟩:=h; exact⟨g,x.blk i g hg,hv⟩
 | .adr A off,_,h=>by simpa [Is] using h
 | .slc i off n c,_,h=>by simp only[Is] at *; obtain⟨g,hg,hv⟩:=h; exact⟨g,x.blk i g hg,hv⟩
 | .own i ver,_,h=>by
  simp only[Is] at *; obtain⟨t,ver',sz,A,n,c,xs,he,hle,hsh,hv⟩:=h
  obtain⟨t1,v1,s1,A1,n1,c1,x1,he1,hle1,h1⟩:=x.own i _ _ _ _ _ _ _ he
  refine⟨t1,v1,s1,A1,n1,c1,x1,he1,Nat.le_trans hle hle1,hsh,fun e=>?_⟩
  have e':ver'=ver:=by omega
  obtain⟨rfl,rfl,rfl⟩:=h1 (by omega)
  exact hv e'
 | .oad i ver off,_,h=>by
  simp only[Is] at *; obtain⟨t,ver',sz,A,n,c,xs,he,hle,hsh,hv⟩:=h
  obtain⟨t1,v1,s1,A1,n1,c1,x1,he1,hle1,h1⟩:=x.own i _ _ _ _ _ _ _ he
  refine⟨t1,v1,s1,A1,n1,c1,x1,he1,Nat.le_trans hle hle1,hsh,fun e=>?_⟩
  have e':ver'=ver:=by omega
  obtain⟨rfl,rfl,rfl⟩:=h1 (by omega)
  exact hv e'
 | .mp i,_,h=>by simp only[Is] at *; obtain⟨g,hg,hv⟩:=h; exact⟨g,x.blk i g hg,hv⟩
 | .agg l,_,h=>by simp only[Is] at *; obtain⟨vs,hl,hv⟩:=h; exact⟨vs,IsL.ext x l hl,hv⟩
 | .tup l,_,h=>by simp only[Is] at *; obtain⟨vs,hl,hv⟩:=h; exact⟨vs,IsL.ext x l hl,hv⟩
 | .fn f a b,_,h=>by simp only[Is] at *; obtain⟨p,q,hp,hq,hv⟩:=h; exact⟨p,q,IsL.ext x a hp,IsL.ext x b hq,hv⟩
theorem IsL.ext {H H':List SO} (x:HExt H H'):∀ (l:List SV) {vs:List Value},IsL H l vs→IsL H' l vs
 | [],_,h=>by simpa [IsL] using h
 | s :: l,_,h=>by
  simp only[IsL] at *; obtain⟨v,r,hv,hr,e⟩:=h
  exact⟨v,r,Is.ext x s hv,IsL.ext x l hr,e⟩
end
theorem HExt.push (H:List SO) (e:SO):HExt H (H++[e]) where
 blk i g h:=by
  rw[blk_eq] at *
  cases hn:nth H i with
  | none=>simp[hn] at h
  | some e'=>rw[zj04 hn]; rw[hn] at h; exact h
 own i t ver sz A n c xs h:=⟨_,_,_,_,_,_,_,zj04 h,Nat.le_refl _,fun _=>⟨rfl,rfl,rfl⟩⟩
theorem HExt.setBlk {H:List SO} {i:Nat} {e e':SO} (hi:nth H i=some e) {g:Nat} (hb:e.blk=some g) (hb':e'.blk=some g):HExt H (setn H i e') where
 blk j g' h:=by
  rw[blk_eq] at *
  by_cases hij:i=j
  ·subst hij
   rw[zj0i _ (nth_lt hi)]
   rw[hi] at h
   simp only[Option.bind_some] at h ⊢
   rw[hb] at h; rw[hb']; exact h
  ·rw[zj0f _ hij]; exact h
 own j t ver sz A n c xs h:=by
  by_cases hij:i=j
  ·subst hij
   rw[hi] at h; injection h with h; subst h; simp[SO.blk] at hb
  ·exact⟨_,_,_,_,_,_,_,by rw[zj0f _ hij]; exact h,Nat.le_refl _,fun _=>⟨rfl,rfl,rfl⟩⟩
theorem HExt.setOwn {H:List SO} {i:Nat} {t t':TypeId} {ver ver' sz sz':Nat} {A A':Option Addr} {n n' c c':Nat} {xs xs':List Value}
  (hi:nth H i=some (.own t ver sz A n c xs)) (hv:ver≤ver') (hs:ver'=ver→A'=A∧n'=n∧c'=c):HExt H (setn H i (.own t' ver' sz' A' n' c' xs')) where
 blk j g' h:=by
  rw[blk_eq] at *
  by_cases hij:i=j
  ·subst hij; rw[hi] at h; simp[SO.blk] at h
  ·rw[zj0f _ hij]; exact h
 own j t1 ver1 sz1 A1 n1 c1 xs1 h:=by
  by_cases hij:i=j
  ·subst hij
   rw[hi] at h; injection h with h; injection h with h1 h2 h3 h4 h5 h6 h7
   subst h1; subst h2; subst h3; subst h4; subst h5; subst h6; subst h7
   exact⟨_,_,_,_,_,_,_,zj0i _ (nth_lt hi),hv,hs⟩
  ·exact⟨_,_,_,_,_,_,_,by rw[zj0f _ hij]; exact h,Nat.le_refl _,fun _=>⟨rfl,rfl,rfl⟩⟩
def EntryOk (H:List SO) (h:Nat→Option Obj):SO→Prop
 | .cells g t l=>∃ c:Array Value,h g=some (.cells c t (0,0))∧IsL H l c.toList
 | .row g t xs=>h g=some (.cells xs.toArray t (0,0))
 | .own t _ sz A n c xs=>xs.length=n*sz∧((n=0∧c=0∧∀ a,A=some a→∃ o,h a.block=some o) ∨
   ∃ g b cur,A=some ⟨g,b,none⟩∧h g=some (.cells cur t (0,0))∧n≤c∧c≤maxLen∧b+c*sz=cur.size∧(cur.toList.drop b).take (n*sz)=xs)
 | .map g l=>∃ (es:Array MapEntry) (clock:Nat),h g=some (.map es clock)∧es.toList.map (fun e=>(e.key,e.val))=l∧(es.toList.map (·.born)).Nodup∧∀ e ∈ es.toList,e.born < clock
 | .obj g o=>h g=some o
 | .gone _=>True
 | .frz g t xs=>∃ (cur:Array Value) (z:Nat × Nat),h g=some (.cells cur t z)∧cur.toList.take xs.length=xs
theorem EntryOk.mono {H H':List SO} {h h':Nat→Option Obj} {e:SO} (x:HExt H H') (hh:∀ g,e.fp=some g→h' g=h g) (k:EntryOk H h e):EntryOk H' h' e:=by
 cases e with
 | cells g t l=>obtain⟨c,hc,hl⟩:=k; exact⟨c,(hh g rfl).trans hc,hl.ext x⟩
 | row g t xs=>exact (hh g rfl).trans k
 | own t ver sz A n c xs =>
  obtain⟨hl,hr⟩:=k
  refine⟨hl,hr.imp ?_ ?_⟩
  ·rintro ⟨h1,h2,h3⟩
   exact⟨h1,h2,fun a ha=>by obtain⟨o,ho⟩:=h3 a ha; exact⟨o,(hh a.block (by rw[ha]; rfl)).trans ho⟩⟩
  ·rintro ⟨g,b,cur,rfl,hg,r⟩
   exact⟨g,b,cur,rfl,(hh g rfl).trans hg,r⟩
 | map g l=>obtain⟨es,ck,hc,r⟩:=k; exact⟨es,ck,(hh g rfl).trans hc,r⟩
 | obj g o=>exact (hh g rfl).trans k
 | gone g=>trivial
 | frz g t xs=>obtain⟨cur,z,hc,r⟩:=k; exact⟨cur,z,(hh g rfl).trans hc,r⟩
def World.ownsB (w:World) (base:Nat) (e:TypeId) (size:Nat) (v:Value) (n:Nat) (xs:List Value):Prop :=
 xs.length=n*size ∧
 ((∃ A,v=.slice A 0 0∧n=0∧∀ a,A=some a→base≤a.block∧∃ o,w.heap[a.block]? = some o) ∨
  ∃ g b cap cur,v=.slice (some ⟨g,b,none⟩) n cap∧base≤g∧w.heap[g]? = some (.cells cur e (0,0))∧n≤cap∧cap≤maxLen∧b+cap*size=cur.size∧(cur.toList.drop b).take (n*size)=xs)
theorem ownsB_row {w:World} {base:Nat} {e:TypeId} {size:Nat} {v:Value} {n:Nat} {xs:List Value} (h:w.ownsRow base e size v n xs):World.ownsB w base e size v n xs:=by
 obtain⟨hl,⟨rfl,rfl⟩ | ⟨g,cap,cur,rfl,hb,hg,h1,h2,h3,h4⟩⟩:=h
 ·exact⟨hl,.inl ⟨none,rfl,rfl,fun a h=>by cases h⟩⟩
 ·exact⟨hl,.inr ⟨g,0,cap,cur,rfl,hb,hg,h1,h2,by omega,by simpa using h4⟩⟩
theorem zj1b (w:World) (base:Nat) (e:TypeId) (size:Nat):World.ownsB w base e size (.slice none 0 0) 0 []:=⟨by simp,.inl ⟨none,rfl,rfl,fun a h=>by cases h⟩⟩
structure Env where
 b:World
 N:Nat
 stolen:List Nat
 nt:Nat
 marks:List Nat
def Env.old (E:Env) (j:Nat):Prop:=j < E.N∧j ∉ E.stolen
structure Keep (K:Nat→Prop) (w w':World):Prop where
 os:w'.os=w.os
 tape:w'.tape=w.tape
 output:w'.output=w.output
 size:w.heap.size≤w'.heap.size
 block:∀ j,K j→w'.heap[j]? = w.heap[j]?
theorem Keep.refl (K:Nat→Prop) (w:World):Keep K w w:=⟨rfl,rfl,rfl,Nat.le_refl _,fun _ _=>rfl⟩
theorem Keep.trans {K:Nat→Prop} {a b c:World} (h:Keep K a b) (k:Keep K b c):Keep K a c :=
 ⟨k.os.trans h.os,k.tape.trans h.tape,k.output.trans h.output,Nat.le_trans h.size k.size,fun j hj=>(k.block j hj).trans (h.block j hj)⟩
theorem Keep.mono {K K':Nat→Prop} {a b:World} (h:Keep K a b) (hk:∀ j,K' j→K j):Keep K' a b :=
 ⟨h.os,h.tape,h.output,h.size,fun j hj=>h.block j (hk j hj)⟩
structure Grow (w w':World):Prop where
 size:w.heap.size≤w'.heap.size
 block:∀ j,j < w.heap.size→w'.heap[j]? = w.heap[j]?
theorem Grow.refl (w:World):Grow w w:=⟨Nat.le_refl _,fun _ _=>rfl⟩
theorem Grow.trans {a b c:World} (h:Grow a b) (k:Grow b c):Grow a c:=⟨Nat.le_trans h.size k.size,fun j hj=>(k.block j (Nat.lt_of_lt_of_le hj h.size)).trans (h.block j hj)⟩
theorem Grow.cell {w w':World} (h:Grow w w') {a:Addr} {v:Value} (hc:w.cell? a=some v):w'.cell? a=some v:=by
 unfold World.cell? at *
 split at hc
 ·rename_i e; rw[h.block _ (Array.getElem?_eq_some_iff.1 e).1,e]; exact hc
 ·cases hc
structure HeapOk (E:Env) (H:List SO) (W:World):Prop where
 keep:Keep E.old E.b W
 floor:E.N≤W.heap.size
 ents:∀ i e,nth H i=some e→EntryOk H (fun g=>W.heap[g]?) e
 fresh:∀ i e g,nth H i=some e→e.fp=some g→g < W.heap.size∧¬ E.old g
 dist:∀ i j e e' g,i ≠ j→nth H i=some e→nth H j=some e'→e.fp=some g→e'.fp ≠ some g
theorem HeapOk.drawn {E:Env} {H:List SO} {W W':World} (h:HeapOk E H W) (hh:W'.heap=W.heap) (ho:W'.os=W.os) (ht:W'.tape=W.tape) (hu:W'.output=W.output):HeapOk E H W' where
 keep:=⟨ho.trans h.keep.os,ht.trans h.keep.tape,hu.trans h.keep.output,by rw[hh]; exact h.keep.size,fun j hj=>by rw[hh]; exact h.keep.block j hj⟩
 floor:=by rw[hh]; exact h.floor
 ents i e hi:=by rw[hh]; exact h.ents i e hi
 fresh i e g hi hf:=by rw[hh]; exact h.fresh i e g hi hf
 dist:=h.dist
theorem HeapOk.push {E:Env} {H:List SO} {W:World} (h:HeapOk E H W) (o:Obj) (e:SO) (hf:e.fp=some W.heap.size)
  (he:EntryOk (H++[e]) (fun g=>(W.alloc o).heap[g]?) e):HeapOk E (H++[e]) (W.alloc o) where
 keep:=h.keep.trans ⟨rfl,rfl,rfl,by simp,fun j hj=>Go.RowKit.Below.heap_alloc W o j (Nat.lt_of_lt_of_le hj.1 h.floor)⟩
 floor:=by have:=h.floor; simp; omega
 ents i e' hi:=by
  by_cases hl:i < H.length
  ·have hi':nth H i=some e':=by rw[nth_eq] at *; rw[List.getElem?_append_left hl] at hi; exact hi
   exact (h.ents i e' hi').mono (HExt.push H e) (fun g hg=>Go.RowKit.Below.heap_alloc W o g (h.fresh i e' g hi' hg).1)
  ·rw[nth_eq,List.getElem?_append_right (by omega)] at hi
   have:e'=e:=by
    cases hk:i - H.length with
    | zero=>rw[hk] at hi; simp at hi; exact hi.symm
    | succ k=>rw[hk] at hi; simp at hi
   subst this; exact he
 fresh i e' g hi hg:=by
  by_cases hl:i < H.length
  ·have hi':nth H i=some e':=by rw[nth_eq] at *; rw[List.getElem?_append_left hl] at hi; exact hi
   have:=h.fresh i e' g hi' hg
   exact⟨by simp; omega,this.2⟩
  ·rw[nth_eq,List.getElem?_append_right (by omega)] at hi
   have:e'=e:=by
    cases hk:i - H.length with
    | zero=>rw[hk] at hi; simp at hi; exact hi.symm
    | succ k=>rw[hk] at hi; simp at hi
   subst this
   rw[hf] at hg; injection hg with hg; subst hg
   exact⟨by simp,fun ho=>by have:=ho.1; have:=h.floor; omega⟩
 dist i j e1 e2 g hij h1 h2 hg1 hg2:=by
  have key:∀ i e1,nth (H++[e]) i=some e1→(i < H.length∧nth H i=some e1)∨(i=H.length∧e1=e):=by
   intro i e1 hi
   by_cases hl:i < H.length
   ·left; exact⟨hl,by rw[nth_eq] at *; rw[List.getElem?_append_left hl] at hi; exact hi⟩
   ·right
    have hlt:=nth_lt hi
    simp at hlt
    have:i=H.length:=by omega
    subst this
    rw[nth_eq] at hi; simp at hi
    exact⟨rfl,hi.symm⟩
  rcases key i e1 h1 with⟨_,k1⟩ | ⟨k1,rfl⟩ <;> rcases key j e2 h2 with⟨_,k2⟩ | ⟨k2,rfl⟩
  ·exact h.dist i j e1 e2 g hij k1 k2 hg1 hg2
  ·have:=(h.fresh i e1 g k1 hg1).1
   rw[hf] at hg2; injection hg2 with hg2; omega
  ·have:=(h.fresh j e2 g k2 hg2).1
   rw[hf] at hg1; injection hg1 with hg1; omega
  ·omega
theorem HeapOk.set {E:Env} {H:List SO} {W W':World} (h:HeapOk E H W) {i:Nat} {e e':SO} (hi:nth H i=some e)
  (x:HExt H (setn H i e')) (hf:∀ g,e'.fp=some g→e.fp=some g∨(W.heap.size≤g∧g < W'.heap.size))
  (hh:∀ g,e.fp ≠ some g→g < W.heap.size→W'.heap[g]? = W.heap[g]?) (hs:W.heap.size≤W'.heap.size) (ho:W'.os=W.os) (ht:W'.tape=W.tape) (hu:W'.output=W.output)
  (he:EntryOk (setn H i e') (fun g=>W'.heap[g]?) e'):HeapOk E (setn H i e') W' where
 keep:=h.keep.trans ⟨ho,ht,hu,hs,fun j hj=>hh j (fun hf'=>(h.fresh i e j hi hf').2 hj) (Nat.lt_of_lt_of_le hj.1 h.floor)⟩
 floor:=Nat.le_trans h.floor hs
 ents j e1 hj:=by
  by_cases hij:i=j
  ·subst hij; rw[zj0i _ (nth_lt hi)] at hj; injection hj with hj; subst hj; exact he
  ·rw[zj0f _ hij] at hj
   refine (h.ents j e1 hj).mono x fun g hg=>hh g (fun hf'=>h.dist i j e e1 g hij hi hj hf' hg) (h.fresh j e1 g hj hg).1
 fresh j e1 g hj hg:=by
  by_cases hij:i=j
  ·subst hij; rw[zj0i _ (nth_lt hi)] at hj; injection hj with hj; subst hj
   rcases hf g hg with h1 | ⟨h1,h2⟩
   ·have:=h.fresh i e g hi h1; exact⟨by omega,this.2⟩
   ·exact⟨h2,fun ho=>by have:=ho.1; have:=h.floor; omega⟩
  ·rw[zj0f _ hij] at hj
   have:=h.fresh j e1 g hj hg; exact⟨by omega,this.2⟩
 dist j k e1 e2 g hjk h1 h2 hg1 hg2:=by
  have hlt:=nth_lt hi
  by_cases hij:i=j
  ·subst hij
   rw[zj0i _ hlt] at h1; injection h1 with h1; subst h1
   rw[zj0f _ hjk] at h2
   rcases hf g hg1 with h3 | ⟨h3,_⟩
   ·exact h.dist i k e e2 g hjk hi h2 h3 hg2
   ·have:=(h.fresh k e2 g h2 hg2).1; omega
  ·rw[zj0f _ hij] at h1
   by_cases hik:i=k
   ·subst hik
    rw[zj0i _ hlt] at h2; injection h2 with h2; subst h2
    rcases hf g hg2 with h3 | ⟨h3,_⟩
    ·exact h.dist j i e1 e g hjk h1 hi hg1 h3
    ·have:=(h.fresh j e1 g h1 hg1).1; omega
   ·rw[zj0f _ hik] at h2
    exact h.dist j k e1 e2 g hjk h1 h2 hg1 hg2
theorem HeapOk.pushG {E:Env} {H:List SO} {W W':World} (h:HeapOk E H W) {row:Option Nat} {e:SO} (hs:W.heap.size≤W'.heap.size) (ho:W'.os=W.os) (ht:W'.tape=W.tape) (hu:W'.output=W.output)
  (hh:∀ j,j < W.heap.size→some j ≠ row→W'.heap[j]? = W.heap[j]?) (hrow:∀ g,row=some g→¬ E.old g∧∀ i e',nth H i=some e'→e'.fp ≠ some g)
  (hf:∀ g,e.fp=some g→(row=some g∨W.heap.size≤g)∧g < W'.heap.size) (he:EntryOk (H++[e]) (fun g=>W'.heap[g]?) e):HeapOk E (H++[e]) W' where
 keep:=h.keep.trans ⟨ho,ht,hu,hs,fun j hj=>hh j (Nat.lt_of_lt_of_le hj.1 h.floor) (fun e=>(hrow j e.symm).1 hj)⟩
 floor:=Nat.le_trans h.floor hs
 ents i e' hi:=by
  by_cases hl:i < H.length
  ·have hi':nth H i=some e':=by rw[nth_eq] at *; rw[List.getElem?_append_left hl] at hi; exact hi
   exact (h.ents i e' hi').mono (HExt.push H e) (fun g hg=>hh g (h.fresh i e' g hi' hg).1 (fun e2=>(hrow g e2.symm).2 i e' hi' hg))
  ·rw[nth_eq,List.getElem?_append_right (by omega)] at hi
   have:e'=e:=by
    cases hk:i - H.length with
    | zero=>rw[hk] at hi; simp at hi; exact hi.symm
    | succ k=>rw[hk] at hi; simp at hi
   subst this; exact he
 fresh i e' g hi hg:=by
  by_cases hl:i < H.length
  ·have hi':nth H i=some e':=by rw[nth_eq] at *; rw[List.getElem?_append_left hl] at hi; exact hi
   have:=h.fresh i e' g hi' hg
   exact⟨by omega,this.2⟩
  ·rw[nth_eq,List.getElem?_append_right (by omega)] at hi
   have:e'=e:=by
    cases hk:i - H.length with
    | zero=>rw[hk] at hi; simp at hi; exact hi.symm
    | succ k=>rw[hk] at hi; simp at hi
   subst this
   obtain⟨h1 | h1,h2⟩:=hf g hg
   ·exact⟨h2,(hrow g h1).1⟩
   ·exact⟨h2,fun ho=>by have:=ho.1; have:=h.floor; omega⟩
 dist i j e1 e2 g hij h1 h2 hg1 hg2:=by
  have key:∀ i e1,nth (H++[e]) i=some e1→(i < H.length∧nth H i=some e1)∨(i=H.length∧e1=e):=by
   intro i e1 hi
   by_cases hl:i < H.length
   ·left; exact⟨hl,by rw[nth_eq] at *; rw[List.getElem?_append_left hl] at hi; exact hi⟩
   ·right
    have hlt:=nth_lt hi
    simp at hlt
    have:i=H.length:=by omega
    subst this
    rw[nth_eq] at hi; simp at hi
    exact⟨rfl,hi.symm⟩
  rcases key i e1 h1 with⟨_,k1⟩ | ⟨k1,rfl⟩ <;> rcases key j e2 h2 with⟨_,k2⟩ | ⟨k2,rfl⟩
  ·exact h.dist i j e1 e2 g hij k1 k2 hg1 hg2
  ·obtain⟨h3 | h3,_⟩:=hf g hg2
   ·exact (hrow g h3).2 i e1 k1 hg1
   ·have:=(h.fresh i e1 g k1 hg1).1; omega
  ·obtain⟨h3 | h3,_⟩:=hf g hg1
   ·exact (hrow g h3).2 j e2 k2 hg2
   ·have:=(h.fresh j e2 g k2 hg2).1; omega
  ·omega
structure SS where
 F:List (Nat × SV)
 H:List SO
def lk:List (Nat × SV)→Nat→SV
 | [],_=>.unk
 | (d,v) :: l,n=>match d == n with | true=>v | false=>lk l n
structure Rep (E:Env) (s:SS) (a:Act) (W:World):Prop where
 size:a.tmps.size=E.nt
 frame:∀ d,Is s.H (lk s.F d) (a.tmps.getD d undef)
 defers:a.defers=E.marks.map fun r=>{ target:=.collected r,args:=#[] }
 heap:HeapOk E s.H W
def putF (F:List (Nat × SV)):Option Nat→SV→List (Nat × SV)
 | none,_=>F
 | some d,v=>(d,v) :: F
theorem Rep.put {E:Env} {s:SS} {a:Act} {W:World} (h:Rep E s a W) {d:Option Nat} {sv:SV} {v:Value} (hd:∀ n,d=some n→n < E.nt) (hv:Is s.H sv v) :
  Rep E { s with F:=putF s.F d sv } (a.put d v) W:=by
 cases d with
 | none=>exact h
 | some d =>
  refine⟨by simp[Act.put,h.size],fun n=>?_,h.defers,h.heap⟩
  have hlt:=hd d rfl
  by_cases hn:d=n
  ·subst hn
   simp only[putF,lk,beq_self_eq_true]
   simp[Act.put,h.size,hlt]
   exact hv
  ·have:(d == n)=false:=by simpa using hn
   simp only[putF,lk,this]
   have:=h.frame n
   simpa [Act.put,Array.getElem?_setIfInBounds_ne hn] using this
theorem Rep.ext {E:Env} {s:SS} {a:Act} {W:World} (h:Rep E s a W) {H':List SO} {W':World} (x:HExt s.H H') (hh:HeapOk E H' W'):Rep E { s with H:=H' } a W' :=
 ⟨h.size,fun d=>(h.frame d).ext x,h.defers,hh⟩
theorem Rep.frame_of {E:Env} {s:SS} {a:Act} {W:World} (h:Rep E s a W) {F':List (Nat × SV)} (hF:∀ d,lk F' d=.unk∨lk F' d=lk s.F d):Rep E { s with F:=F' } a W :=
 ⟨h.size,fun d=>by
  show Is s.H (lk F' d) _
  rcases hF d with e | e
  ·rw[e]; simp[Is]
  ·rw[e]; exact h.frame d,h.defers,h.heap⟩
end Go.Sx
