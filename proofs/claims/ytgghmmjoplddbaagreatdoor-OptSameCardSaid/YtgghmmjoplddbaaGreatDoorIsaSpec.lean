/- Plain words of isa: instructions, their bytes. -/
import Derived.Lib.Bytealg
import Derived.Test.YtgghmmjoplddbaaGreatDoorSxGhost
import Derived.Lib.ItoaLen
import Derived.Lib.AtoiAll
import Derived.Lib.Split
import Derived.Lib.Strings
import Derived.Lib.ItoaNum
import Derived.Lib.AtoiAllCases
import Derived.Lib.CountLaws
import Derived.Lib.SlTrimSet
import Derived.Lib.IndexMore
import Derived.Lib.LastIndexByte
import Derived.Test.YtgghmmjoplddbaaGreatDoorDkFlat
set_option linter.unusedSimpArgs false
set_option linter.unusedVariables false
set_option linter.unnecessarySimpa false
namespace Go.Isa
open Go Go.Sx
structure In where
 op:Int
 a:Int
 b:Int
 c:Int
 imm:Int
deriving DecidableEq
def In.cells (x:In):List Value:=[.int .i64 x.op,.int .i64 x.a,.int .i64 x.b,.int .i64 x.c,.int .i64 x.imm]
def cellsI (l:List In):List Value:=l.flatMap In.cells
theorem zj0o (l:List In):(cellsI l).length=l.length*5:=zj2j (f:=In.cells) (sz:=5) (fun _=>rfl) l
theorem zj0y (l:List In) {i k:Nat} (hi:i < l.length) (hk:k < 5):(cellsI l)[i*5+k]? = (l[i]).cells[k]? := zj33 (f:=In.cells) (sz:=5) (fun _=>rfl) l hi hk
theorem zj66 (l m:List In):cellsI (l++m)=cellsI l++cellsI m:=by simp[cellsI]
structure RI where
 i:Nat
 A:Option Addr
 c:Nat
def isB (n:Int):Prop:=0≤n∧n≤255
instance (n:Int):Decidable (isB n):=by unfold isB; infer_instance
def low (m:Int):Int:=if m < 0 then m+4294967296 else m
def okIn (x:In):Prop:=(isB x.op∧isB x.a∧isB x.b∧isB x.c) ∧ -2147483648≤x.imm∧x.imm≤2147483647
instance (x:In):Decidable (okIn x):=by unfold okIn; infer_instance
def okL (l:List In):Prop:=l.length≤1024∧∀ x ∈ l,okIn x
theorem take_succ {α:Type} (l:List α) {i:Nat} (h:i < l.length):l.take (i+1)=l.take i++[l[i]]:=by
 rw[List.take_add_one,List.getElem?_eq_getElem h]; rfl
def gB (b:List Int) (j:Nat):Int:=b.getD j 0
def nmL (op:Int):List UInt8 :=
 if op=2 then [65,73] else if op=3 then [65,66] else if 4≤op∧op≤10 then [65,66,67] else if op=11∨op=12∨op=14∨op=15∨op=16 then [65,66,73] else if op=13 then [73] else []
def isOp (op:Int):Bool:=decide (1≤op) && decide (op≤18)
def hasL (op:Int) (c:Int):Bool:=decide (0≤Lib.indexByte (nmL op) c.toNat.toUInt8)
def isReg (n:Int):Bool:=decide (0≤n) && decide (n < 8)
def legalB (x:In):Bool:=isOp x.op && (!hasL x.op 65 || isReg x.a) && (!hasL x.op 66 || isReg x.b) && (!hasL x.op 67 || isReg x.c)
theorem zj0g {op:Int} (h:isOp op=true):op=1∨op=2∨op=3∨op=4∨op=5∨op=6∨op=7∨op=8∨op=9∨op=10∨op=11∨op=12∨op=13∨op=14∨op=15∨op=16∨op=17∨op=18:=by
 simp only[isOp,Bool.and_eq_true,decide_eq_true_eq] at h; omega
theorem nmL_out {op:Int} (h:isOp op=false):nmL op=[]:=by
 have:¬ (1≤op∧op≤18):=by intro k; simp[isOp,k.1,k.2] at h
 unfold nmL
 rw[if_neg (by omega),if_neg (by omega),if_neg (by omega),if_neg (by omega),if_neg (by omega)]
structure Ef where
 kind:Int
 next:Int
 reg:Int
 value:Int
 addr:Int
deriving DecidableEq
def Ef.cells (e:Ef):List Value:=[.int .i64 e.kind,.int .i64 e.next,.int .i64 e.reg,.int .u64 e.value,.int .u64 e.addr]
def Ef.val (e:Ef):Value:=.agg e.cells.toArray
def Ef.zero:Ef:=⟨0,0,0,0,0⟩
def w64 (n:Int):Int:=n % 18446744073709551616
def is64 (n:Int):Prop := -9223372036854775808≤n∧n≤9223372036854775807
def isU (n:Int):Prop:=0≤n∧n < 18446744073709551616
def goE (imm pc:Int) (is:Bool):Ef:=if is then (if imm < 0∨1024 < imm then Ef.zero else ⟨2,imm,0,0,0⟩) else ⟨2,pc+1,0,0,0⟩
def doE (x:In) (a b c pc:Int):Ef :=
 if x.op=1 then ⟨7,pc+1,0,0,0⟩
 else if x.op=2 then ⟨1,pc+1,x.a,w64 x.imm,0⟩
 else if x.op=3 then ⟨1,pc+1,x.a,b,0⟩
 else if x.op=4 then ⟨1,pc+1,x.a,w64 (b+c),0⟩
 else if x.op=5 then ⟨1,pc+1,x.a,w64 (b - c),0⟩
 else if x.op=6 then ⟨1,pc+1,x.a,w64 (b*c),0⟩
 else if x.op=7 then ⟨1,pc+1,x.a,w64 (BitVec.ofInt 64 b &&& BitVec.ofInt 64 c).toNat,0⟩
 else if x.op=8 then ⟨1,pc+1,x.a,w64 (BitVec.ofInt 64 b ^^^ BitVec.ofInt 64 c).toNat,0⟩
 else if x.op=9 then ⟨1,pc+1,x.a,w64 (b*2 ^ (c % 64).toNat),0⟩
 else if x.op=10 then ⟨1,pc+1,x.a,b / 2 ^ (c % 64).toNat,0⟩
 else if x.op=11 then ⟨3,pc+1,x.a,0,w64 (b+w64 x.imm)⟩
 else if x.op=12 then ⟨4,pc+1,0,a,w64 (b+w64 x.imm)⟩
 else if x.op=13 then goE x.imm pc true
 else if x.op=14 then goE x.imm pc (a == b)
 else if x.op=15 then goE x.imm pc (a != b)
 else if x.op=16 then goE x.imm pc (decide (a < b))
 else if x.op=17 then ⟨5,pc+1,0,0,0⟩
 else ⟨6,pc+1,0,0,0⟩
def rg (r:List Int) (n:Int):Int:=r.getD (n % 8).toNat 0
def doB (x:In) (r:List Int) (pc:Int):Ef:=if legalB x∧0≤pc∧pc < 1024 then doE x (rg r x.a) (rg r x.b) (rg r x.c) pc else Ef.zero
def uV (n:Int):Value:=.int .u64 n
def goK (x:In):Int:=if legalB x=true∧0≤x.imm∧x.imm≤1024 then (if x.op=13 then 1 else if 14≤x.op∧x.op≤16 then 2 else 0) else 0
theorem zj1r {x:In} (h:goK x ≠ 0):0≤x.imm∧x.imm≤1024:=by
 unfold goK at h
 split at h
 ·rename_i h'; exact h'.2
 ·exact absurd rfl h
def thr (cs:List In):Nat→List Int→Int→Int
 | 0,_,p=>p
 | n+1,led,p=>match cs[p.toNat]? with
  | none=>p
  | some x=>if goK x=1∧x.imm ∉ p :: led then thr cs n (p :: led) x.imm else p
def thrI (cs:List In) (x:In):In:=if goK x=0 then x else { x with imm:=thr cs cs.length [] x.imm }
def zj0a (cs:List In):List In:=cs.map (thrI cs)
theorem zj1m (cs:List In):(zj0a cs).length=cs.length:=by simp[zj0a]
structure LedOk (cs:List In) (led:List Int) (p:Int):Prop where
 nd:led.Nodup
 rg:∀ q ∈ led,0≤q∧q < cs.length
 no:p ∉ led
 p0:0≤p
theorem zj2a:∀ (n:Nat) (l:List Int),l.Nodup→(∀ q ∈ l,0≤q∧q < (n:Int))→l.length≤n
 | 0,l,_,h=>by
  cases l with
  | nil=>simp
  | cons x l=>have:=h x (by simp); omega
 | n+1,l,hn,h=>by
  have h1:(l.erase (n:Int)).length≤n:=by
   refine zj2a n _ (hn.erase _) fun q hq=>?_
   have hq':=List.mem_of_mem_erase hq
   have:=h q hq'
   have hne:q ≠ (n:Int):=fun e=>by subst e; exact (List.Nodup.not_mem_erase hn) hq
   omega
  have h2:l.length≤(l.erase (n:Int)).length+1:=by
   rcases Classical.em ((n:Int) ∈ l) with hm | hm
   ·rw[List.length_erase_of_mem hm]; omega
   ·rw[List.erase_of_not_mem hm]; omega
  omega
theorem LedOk.len {cs:List In} {led:List Int} {p:Int} (h:LedOk cs led p):led.length≤cs.length:=zj2a _ _ h.nd h.rg
theorem LedOk.step {cs:List In} {led:List Int} {p:Int} (h:LedOk cs led p) (hp:p < cs.length) {q:Int} (hq:q ∉ p :: led) (h0:0≤q):LedOk cs (p :: led) q where
 nd:=List.nodup_cons.2 ⟨h.no,h.nd⟩
 rg r hr:=by
  rcases List.mem_cons.1 hr with rfl | hr
  ·exact⟨h.p0,hp⟩
  ·exact h.rg r hr
 no:=hq
 p0:=h0
theorem at_of {cs:List In} {p:Int} {x:In} (h0:0≤p) (h:cs[p.toNat]? = some x):p < cs.length:=by
 have:=(List.getElem?_eq_some_iff.1 h).1; omega
theorem thr_more (cs:List In):∀ (n:Nat) (led:List Int) (p:Int),LedOk cs led p→cs.length≤led.length+n→thr cs (n+1) led p=thr cs n led p
 | 0,led,p,h,hn=>by
  show (match cs[p.toNat]? with | none=>p | some x=>if goK x=1∧x.imm ∉ p :: led then thr cs 0 (p :: led) x.imm else p)=p
  split
  ·rfl
  ·rename_i x hx
   have hp:=at_of h.p0 hx
   have:=zj2a cs.length (p :: led) (List.nodup_cons.2 ⟨h.no,h.nd⟩) (fun r hr=>by
    rcases List.mem_cons.1 hr with rfl | hr
    ·exact⟨h.p0,hp⟩
    ·exact h.rg r hr)
   simp at this; omega
 | n+1,led,p,h,hn=>by
  rw[thr]
  conv=>rhs; rw[thr]
  split
  ·rfl
  ·rename_i x hx
   split
   ·rename_i hc
    exact thr_more cs n _ _ (h.step (at_of h.p0 hx) hc.2 (zj1r (by rw[hc.1]; decide)).1) (by simp; omega)
   ·rfl
theorem thr_end {cs:List In} {n:Nat} {led:List Int} {p:Int} (h:cs[p.toNat]? = none):thr cs n led p=p:=by
 cases n with
 | zero=>rfl
 | succ n=>rw[thr,h]
theorem zj5e {cs:List In} {n:Nat} {led:List Int} {p:Int} {x:In} (hx:cs[p.toNat]? = some x) (h:¬ (goK x=1∧x.imm ∉ p :: led)):thr cs n led p=p:=by
 cases n with
 | zero=>rfl
 | succ n=>rw[thr,hx]; simp only[if_neg h]
theorem thr_on {cs:List In} {n:Nat} {led:List Int} {p:Int} {x:In} (hx:cs[p.toNat]? = some x) (h:goK x=1∧x.imm ∉ p :: led):thr cs (n+1) led p=thr cs n (p :: led) x.imm:=by
 rw[thr,hx]; simp only[if_pos h]
theorem thr_all {cs:List In} {led:List Int} {p:Int} {x:In} (hl:LedOk cs led p) (hx:cs[p.toNat]? = some x) (h:goK x=1∧x.imm ∉ p :: led):thr cs cs.length led p=thr cs cs.length (p :: led) x.imm:=by
 rw[← thr_more cs cs.length led p hl (by omega),thr_on hx h]
theorem thr_rg (cs:List In):∀ (n:Nat) (led:List Int) (p:Int),0≤p→p≤1024→0≤thr cs n led p∧thr cs n led p≤1024
 | 0,_,p,h0,h1=>⟨h0,h1⟩
 | n+1,led,p,h0,h1=>by
  rw[thr]
  split
  ·exact⟨h0,h1⟩
  ·rename_i x hx
   split
   ·rename_i hc
    have:=zj1r (x:=x) (by rw[hc.1]; decide)
    exact thr_rg cs n _ _ this.1 this.2
   ·exact⟨h0,h1⟩
def setM (l:List Int):List (Value × Value):=l.map fun n=>(.int .i64 n,.agg #[])
theorem setM_keys (l:List Int):∀ p ∈ setM l,keyIs (.int .i64) p.1=true:=by
 intro p hp
 simp only[setM,List.mem_map] at hp
 obtain⟨n,_,rfl⟩:=hp; rfl
theorem zj7d:∀ (l:List Int) (n:Int),mget (setM l) (.int .i64 n)=if n ∈ l then some (.agg #[]) else none
 | [],n=>by simp[setM,mget]
 | m :: l,n=>by
  show (match keyB (Value.int .i64 n) (.int .i64 m) with | true=>some (Value.agg #[]) | false=>mget (setM l) (.int .i64 n))=_
  have ih:=zj7d l n
  by_cases h:n=m
  ·subst h; simp[keyB]
  ·have:keyB (.int .i64 n) (.int .i64 m)=false:=by simp[keyB,h]
   rw[this]; simp only[ih,List.mem_cons,h,false_or]
theorem setM_put:∀ (l:List Int) (n:Int),n ∉ l→mput (setM l) (.int .i64 n) (.agg #[])=setM (l++[n])
 | [],n,_=>rfl
 | m :: l,n,h=>by
  have hne:n ≠ m:=fun e=>h (by simp[e])
  have hnl:n ∉ l:=fun e=>h (by simp[e])
  show (match keyB (Value.int .i64 n) (.int .i64 m) with | true=>(Value.int .i64 n,Value.agg #[]) :: setM l | false=>(Value.int .i64 m,Value.agg #[]) :: mput (setM l) (.int .i64 n) (.agg #[]))=_
  have:keyB (.int .i64 n) (.int .i64 m)=false:=by simp[keyB,hne]
  rw[this]
  simp only[setM_put l n hnl]
  rfl
def intsV (l:List Int):List Value:=l.map fun n=>.int .i64 n
theorem set_flat {α:Type} {f:α→List Value} {sz:Nat} (hf:∀ x,(f x).length=sz):∀ (l:List α) (i k:Nat) (hi:i < l.length) (v:Value) (y:α),k < sz→(f l[i]).set k v=f y→(l.flatMap f).set (i*sz+k) v=(l.set i y).flatMap f
 | x :: l,0,k,_,v,y,hk,h=>by
  simp only[List.flatMap_cons,Nat.zero_mul,Nat.zero_add,List.set_cons_zero,List.getElem_cons_zero] at *
  rw[List.set_append_left _ _ (by rw[hf]; exact hk),h]
 | x :: l,i+1,k,hi,v,y,hk,h=>by
  simp only[List.flatMap_cons,List.set_cons_succ,List.getElem_cons_succ] at *
  rw[List.set_append_right _ _ (by rw[hf,Nat.add_mul]; omega),hf]
  rw[show (i+1)*sz+k - sz=i*sz+k by rw[Nat.add_mul]; omega]
  rw[set_flat hf l i k (by simpa using hi) v y hk h]
theorem cellsI_set (l:List In) (i k:Nat) (hi:i < l.length) (v:Value) (y:In) (hk:k < 5) (h:(l[i]).cells.set k v=y.cells):setn (cellsI l) (i*5+k) v=cellsI (l.set i y):=by
 rw[zj0k]; exact set_flat (f:=In.cells) (sz:=5) (fun _=>rfl) l i k hi v y hk h
def mixL {α:Type} (f:α→α) (l:List α) (i:Nat):List α:=(l.take i).map f++l.drop i
theorem zj7e {α:Type} (f:α→α) (l:List α) (i:Nat):(mixL f l i).length=l.length:=by simp[mixL]; omega
theorem mixL_zero {α:Type} (f:α→α) (l:List α):mixL f l 0=l:=by simp[mixL]
theorem mixL_all {α:Type} (f:α→α) (l:List α):mixL f l l.length=l.map f:=by simp[mixL]
theorem mixL_get {α:Type} (f:α→α) (l:List α) {i:Nat} (hi:i < l.length):(mixL f l i)[i]'(by rw[zj7e]; exact hi)=l[i]:=by
 simp only[mixL]
 rw[List.getElem_append_right (by simp; omega)]
 simp[Nat.min_eq_left (Nat.le_of_lt hi)]
theorem mixL_succ {α:Type} (f:α→α) (l:List α) {i:Nat} (hi:i < l.length):mixL f l (i+1)=(mixL f l i).set i (f l[i]):=by
 simp only[mixL]
 rw[List.set_append_right _ _ (by simp; omega)]
 have hd:List.drop i l=l[i] :: l.drop (i+1):=(List.getElem_cons_drop hi).symm
 rw[List.take_add_one,List.getElem?_eq_getElem hi,hd]
 simp only[List.map_append,List.length_map,List.length_take,Nat.min_eq_left (Nat.le_of_lt hi),Nat.sub_self,Option.toList_some,List.map_cons,List.map_nil,List.append_assoc,List.set_cons_zero,List.singleton_append]
theorem mixL_same {α:Type} (f:α→α) (l:List α) {i:Nat} (hi:i < l.length) (h:f l[i]=l[i]):mixL f l (i+1)=mixL f l i:=by
 rw[mixL_succ f l hi,h]
 conv=>lhs; rw[← mixL_get f l hi]
 simp
end Go.Isa
namespace Go.Lint
open Go Go.Sx Go.Isa
abbrev Spot:=Int × Bool
abbrev Set8:=BitVec 8
def bit (n:Int):Set8:=1#8 <<< n.toNat
def setsB (x:In):Set8:=if 2≤x.op∧x.op≤11 then bit x.a else 0#8
def readsB (x:In):Set8 :=
 if x.op=3∨x.op=11 then bit x.b
 else if 4≤x.op∧x.op≤10 then bit x.b ||| bit x.c
 else if x.op=12∨(14≤x.op∧x.op≤16) then bit x.a ||| bit x.b
 else 0#8
def nxt (x:In) (s:Spot):List Spot :=
 if x.op=1 then []
 else if x.op=17∧s.2=true then []
 else if x.op=18∧s.2=false then []
 else if x.op=17∨x.op=18 then [(s.1+1,!s.2)]
 else if 13≤x.op∧x.op≤16 then
  (if x.imm < 0∨1024 < x.imm then [] else [(x.imm,s.2)])++(if x.op=13 then [] else [(s.1+1,s.2)])
 else [(s.1+1,s.2)]
def fnd (x:In) (s:Spot):List Int :=
 if x.op=1 then (if s.2 then [4] else [])
 else if x.op=17∧s.2=true then [3]
 else if x.op=18∧s.2=false then [2]
 else if x.op=17∨x.op=18 then []
 else if 13≤x.op∧x.op≤16∧(x.imm < 0∨1024 < x.imm) then [6]
 else []
abbrev Met:=List (Spot × Set8)
def get:Met→Spot→Option Set8
 | [],_=>none
 | (q,b) :: m,s=>if s=q then some b else get m s
def put:Met→Spot→Set8→Met
 | [],s,b=>[(s,b)]
 | (q,c) :: m,s,b=>if s=q then (s,b) :: m else (q,c) :: put m s b
theorem zj1s:∀ (m:Met) (s t:Spot) (b:Set8),get (put m s b) t=if t=s then some b else get m t
 | [],s,t,b=>by simp[put,get]
 | (q,c) :: m,s,t,b=>by
  unfold put
  split
  ·rename_i h; subst h
   simp only[get]
   split <;> rfl
  ·rename_i h
   simp only[get,zj1s m s t b]
   by_cases h1:t=q
   ·subst h1; simp[Ne.symm h]
   ·simp[h1]
theorem put_keys {m:Met} {s:Spot} {b:Set8} {P:Spot→Prop} (hm:∀ p ∈ m,P p.1) (hs:P s):∀ p ∈ put m s b,P p.1:=by
 induction m with
 | nil=>intro p hp; simp[put] at hp; subst hp; exact hs
 | cons q m ih =>
  obtain⟨q,c⟩:=q
  intro p hp
  unfold put at hp
  split at hp
  ·rcases List.mem_cons.1 hp with rfl | hp
   ·exact hs
   ·exact hm p (by simp[hp])
  ·rcases List.mem_cons.1 hp with rfl | hp
   ·exact hm _ (by simp)
   ·exact ih (fun p hp=>hm p (by simp[hp])) p hp
structure St where
 met:Met
 todo:List Spot
 fs:List (Int × Int)
def meet (len:Int) (set:Set8) (p:Int) (st:St) (n:Spot):St :=
 let fs:=if n.2=true∧len≤n.1 then st.fs++[(5,p)] else st.fs
 match get st.met n with
 | none=>⟨put st.met n (255#8 &&& set),st.todo++[n],fs⟩
 | some was=>if was &&& set ≠ was then ⟨put st.met n (was &&& set),st.todo++[n],fs⟩ else ⟨st.met,st.todo,fs⟩
def stepW (cs:List In) (s:Spot) (st:St):St :=
 match cs[s.1.toNat]? with
 | none=>st
 | some x=>if legalB x=true then
   (nxt x s).foldl (meet cs.length ((get st.met s).getD 0#8 ||| setsB x) s.1) ⟨st.met,st.todo,st.fs++(fnd x s).map (·,s.1)⟩
  else ⟨st.met,st.todo,st.fs++[(1,s.1)]⟩
theorem meet_len (len:Int) (set:Set8) (p:Int) (st:St) (n:Spot):(meet len set p st n).fs.length≤st.fs.length+1∧(meet len set p st n).todo.length≤st.todo.length+1:=by
 have h:(if n.2=true∧len≤n.1 then st.fs++[(5,p)] else st.fs).length≤st.fs.length+1:=by split <;> simp
 unfold meet
 cases get st.met n with
 | none=>exact⟨h,by simp⟩
 | some was =>
  by_cases e:was &&& set ≠ was
  ·simp only[if_pos e]; exact⟨h,by simp⟩
  ·simp only[if_neg e]; exact⟨h,by omega⟩
inductive Reach (cs:List In):Spot→Prop
 | start:Reach cs (0,false)
 | step (s n:Spot) (x:In):Reach cs s→cs[s.1.toNat]? = some x→legalB x=true→n ∈ nxt x s→Reach cs n
inductive Unset (cs:List In) (r:Nat):Spot→Prop
 | start:Unset cs r (0,false)
 | step (s n:Spot) (x:In):Unset cs r s→cs[s.1.toNat]? = some x→legalB x=true→(setsB x).getLsbD r=false→n ∈ nxt x s→Unset cs r n
theorem Unset.reach {cs:List In} {r:Nat} {s:Spot} (h:Unset cs r s):Reach cs s:=by
 induction h with
 | start=>exact .start
 | step s n x _ h1 h2 _ h3 ih=>exact .step s n x ih h1 h2 h3
def WalkBad (cs:List In) (c p:Int):Prop:=∃ s x,Reach cs s∧s.1=p∧cs[s.1.toNat]? = some x ∧
 ((c=1∧legalB x=false)∨(legalB x=true∧(c ∈ fnd x s∨(c=5∧∃ n ∈ nxt x s,n.2=true∧(cs.length:Int)≤n.1))))
def sub8 (a b:Set8):Prop:=∀ r,a.getLsbD r=true→b.getLsbD r=true
theorem zj2u (a:Set8):sub8 a a:=fun _ h=>h
theorem sub8_and_l (a b:Set8):sub8 (a &&& b) a:=fun r h=>by rw[BitVec.getLsbD_and] at h; simp at h; exact h.1
theorem zj20 (a b:Set8):sub8 (a &&& b) b:=fun r h=>by rw[BitVec.getLsbD_and] at h; simp at h; exact h.2
theorem and_eq_sub {a b:Set8} (h:a &&& b=a):sub8 a b:=by rw[← h]; exact zj20 a b
def Done (cs:List In) (met:Met) (fs:List (Int × Int)) (t:Spot) (b:Set8):Prop :=
 ∀ x,cs[t.1.toNat]? = some x →
  (legalB x=false→(1,t.1) ∈ fs) ∧
  (legalB x=true→(∀ c ∈ fnd x t,(c,t.1) ∈ fs)∧∀ n ∈ nxt x t,(n.2=true∧(cs.length:Int)≤n.1→(5,t.1) ∈ fs)∧∃ b',get met n=some b'∧sub8 b' (b ||| setsB x))
structure Inv0 (cs:List In) (st:St):Prop where
 sound:∀ s b,get st.met s=some b→Reach cs s∧∀ r,r < 8→b.getLsbD r=false→Unset cs r s
 base:get st.met (0,false)=some 0#8
 found:∀ c p,(c,p) ∈ st.fs→WalkBad cs c p
 todo:∀ s ∈ st.todo,∃ b,get st.met s=some b
 range:∀ s b,get st.met s=some b→0≤s.1∧s.1≤1024
structure Inv (cs:List In) (st:St):Prop extends Inv0 cs st where
 done:∀ t b,get st.met t=some b→t ∉ st.todo→Done cs st.met st.fs t b
theorem Done.mono {cs:List In} {met met':Met} {fs fs':List (Int × Int)} {t:Spot} {b:Set8} (h:Done cs met fs t b) (hf:∀ q ∈ fs,q ∈ fs') (hm:∀ n b,get met n=some b→∃ b',get met' n=some b'∧sub8 b' b):Done cs met' fs' t b:=by
 intro x hx
 obtain⟨h1,h2⟩:=h x hx
 refine⟨fun h=>hf _ (h1 h),fun h=>⟨fun c hc=>hf _ ((h2 h).1 c hc),fun n hn=>?_⟩⟩
 obtain⟨h3,b',h4,h5⟩:=(h2 h).2 n hn
 refine⟨fun h=>hf _ (h3 h),?_⟩
 obtain⟨b2,h6,h7⟩:=hm n b' h4
 exact⟨b2,h6,fun r hr=>h5 r (h7 r hr)⟩
theorem meet_spec (len:Int) (set:Set8) (p:Int) (st:St) (n:Spot) :
  (∀ q ∈ st.fs,q ∈ (meet len set p st n).fs)∧(∀ t ∈ st.todo,t ∈ (meet len set p st n).todo) ∧
  (∀ t b,get st.met t=some b→∃ b',get (meet len set p st n).met t=some b'∧sub8 b' b) ∧
  (∀ t,t ∉ (meet len set p st n).todo→t ∉ st.todo∧(∀ b,get (meet len set p st n).met t=some b→get st.met t=some b)∧(∀ b,get st.met t=some b→get (meet len set p st n).met t=some b)) ∧
  (∃ b',get (meet len set p st n).met n=some b'∧sub8 b' set) ∧
  (∀ t b,get (meet len set p st n).met t=some b→get st.met t=some b∨(t=n∧∃ w,sub8 b set∧((get st.met n=none∧b=255#8 &&& set∧w=255#8)∨(get st.met n=some w∧b=w &&& set)))) ∧
  (∀ t ∈ (meet len set p st n).todo,t ∈ st.todo∨t=n) ∧
  (∀ q ∈ (meet len set p st n).fs,q ∈ st.fs∨(q=(5,p)∧n.2=true∧len≤n.1)) ∧
  (n.2=true∧len≤n.1→(5,p) ∈ (meet len set p st n).fs):=by
 have hf:∀ q,q ∈ (if n.2=true∧len≤n.1 then st.fs++[(5,p)] else st.fs) ↔ q ∈ st.fs∨(q=(5,p)∧n.2=true∧len≤n.1):=by
  intro q
  by_cases hc:n.2=true∧len≤n.1
  ·simp only[if_pos hc,List.mem_append,List.mem_singleton]
   exact⟨fun h=>h.imp id (fun e=>⟨e,hc⟩),fun h=>h.imp id (·.1)⟩
  ·simp only[if_neg hc]
   exact⟨.inl,fun h=>h.elim id (fun e=>absurd e.2 hc)⟩
 unfold meet
 cases hg:get st.met n with
 | none =>
  simp only
  refine⟨fun q hq=>(hf q).2 (.inl hq),fun t ht=>by simp[ht],fun t b hb=>?_,fun t ht=>?_,⟨_,by rw[zj1s,if_pos rfl],zj20 _ _⟩,fun t b hb=>?_,fun t ht=>by simpa using ht,fun q hq=>(hf q).1 hq,fun h=>(hf _).2 (.inr ⟨rfl,h⟩)⟩
  ·have:t ≠ n:=fun e=>by subst e; rw[hg] at hb; cases hb
   exact⟨b,by rw[zj1s,if_neg this]; exact hb,zj2u b⟩
  ·simp only[List.mem_append,List.mem_singleton,not_or] at ht
   exact⟨ht.1,fun b hb=>by rw[zj1s,if_neg ht.2] at hb; exact hb,fun b hb=>by rw[zj1s,if_neg ht.2]; exact hb⟩
  ·rw[zj1s] at hb
   split at hb
   ·rename_i e; injection hb with hb; subst hb
    exact .inr ⟨e,255#8,zj20 _ _,.inl ⟨by simp,rfl,rfl⟩⟩
   ·exact .inl hb
 | some was =>
  simp only
  split
  ·refine⟨fun q hq=>(hf q).2 (.inl hq),fun t ht=>by simp[ht],fun t b hb=>?_,fun t ht=>?_,⟨_,by rw[zj1s,if_pos rfl],zj20 _ _⟩,fun t b hb=>?_,fun t ht=>by simpa using ht,fun q hq=>(hf q).1 hq,fun h=>(hf _).2 (.inr ⟨rfl,h⟩)⟩
   ·by_cases h:t=n
    ·subst h; rw[hg] at hb; injection hb with hb; subst hb
     exact⟨_,by rw[zj1s,if_pos rfl],sub8_and_l _ _⟩
    ·exact⟨b,by rw[zj1s,if_neg h]; exact hb,zj2u b⟩
   ·simp only[List.mem_append,List.mem_singleton,not_or] at ht
    exact⟨ht.1,fun b hb=>by rw[zj1s,if_neg ht.2] at hb; exact hb,fun b hb=>by rw[zj1s,if_neg ht.2]; exact hb⟩
   ·rw[zj1s] at hb
    split at hb
    ·rename_i e; injection hb with hb; subst hb
     exact .inr ⟨e,was,zj20 _ _,.inr ⟨by simp,rfl⟩⟩
    ·exact .inl hb
  ·rename_i h
   have h:was &&& set=was:=Classical.not_not.1 h
   exact⟨fun q hq=>(hf q).2 (.inl hq),fun t ht=>ht,fun t b hb=>⟨b,hb,zj2u b⟩,fun t ht=>⟨ht,fun b hb=>hb,fun b hb=>hb⟩,⟨was,hg,and_eq_sub h⟩,fun t b hb=>.inl hb,fun t ht=>.inl ht,fun q hq=>(hf q).1 hq,fun h=>(hf _).2 (.inr ⟨rfl,h⟩)⟩
structure Mid (cs:List In) (s:Spot) (x:In) (b0:Set8) (l:List Spot) (st:St):Prop extends Inv0 cs st where
 done:∀ t b,get st.met t=some b→t ∉ st.todo→t ≠ s→Done cs st.met st.fs t b
 self:s ∉ st.todo→get st.met s=some b0
 some':∃ b,get st.met s=some b
 ffs:∀ c ∈ fnd x s,(c,s.1) ∈ st.fs
 gone:∀ n ∈ l,(n.2=true∧(cs.length:Int)≤n.1→(5,s.1) ∈ st.fs)∧∃ b',get st.met n=some b'∧sub8 b' (b0 ||| setsB x)
theorem zj3l {cs:List In} {s n:Spot} {x:In} (h0:0≤s.1) (hx:cs[s.1.toNat]? = some x) (hl:cs.length≤1024) (hn:n ∈ nxt x s):0≤n.1∧n.1≤1024:=by
 have h1:=(List.getElem?_eq_some_iff.1 hx).1
 unfold nxt at hn
 repeat' (split at hn)
 all_goals simp only[List.mem_append,List.mem_singleton,List.not_mem_nil,or_false,false_or] at hn
 all_goals first | (subst hn; exact⟨by simp; omega,by simp; omega⟩) | (rcases hn with rfl | rfl <;> exact⟨by simp; omega,by simp; omega⟩) | skip
theorem Mid.meets {cs:List In} {s:Spot} {x:In} {b0:Set8} {l:List Spot} {st:St} (h:Mid cs s x b0 l st) (hx:cs[s.1.toNat]? = some x) (hlg:legalB x=true) (hs:Reach cs s) (hu:∀ r,r < 8→b0.getLsbD r=false→Unset cs r s) (hs0:0≤s.1) (hlen:cs.length≤1024) {n:Spot} (hn:n ∈ nxt x s) :
  Mid cs s x b0 (l++[n]) (meet cs.length (b0 ||| setsB x) s.1 st n):=by
 obtain⟨m1,m2,m3,m4,m5,m6,m7,m8,m9⟩:=meet_spec cs.length (b0 ||| setsB x) s.1 st n
 have hrn:Reach cs n:=.step s n x hs hx hlg hn
 have hun:∀ r,r < 8→(b0 ||| setsB x).getLsbD r=false→Unset cs r n:=fun r hr hb=>by
  rw[BitVec.getLsbD_or] at hb
  simp at hb
  exact .step s n x (hu r hr hb.1) hx hlg hb.2 hn
 refine { sound:=fun t b hb=>?_,base:=?_,found:=fun c p hc=>?_,todo:=fun t ht=>?_,range:=fun t b hb=>?_,done:=fun t b hb ht hts=>?_,self:=fun ht=>?_,some':=?_,ffs:=fun c hc=>m1 _ (h.ffs c hc),gone:=fun q hq=>?_ }
 ·rcases m6 t b hb with h1 | ⟨rfl,w,_,⟨_,rfl,_⟩ | ⟨hw,rfl⟩⟩
  ·exact h.sound t b h1
  ·refine⟨hrn,fun r hr hb=>?_⟩
   rw[BitVec.getLsbD_and] at hb
   have:(255#8).getLsbD r=true:=by
    have:r=0∨r=1∨r=2∨r=3∨r=4∨r=5∨r=6∨r=7:=by omega
    rcases this with rfl | rfl | rfl | rfl | rfl | rfl | rfl | rfl <;> rfl
   rw[this] at hb
   exact hun r hr (by simpa using hb)
  ·refine⟨hrn,fun r hr hb=>?_⟩
   rw[BitVec.getLsbD_and] at hb
   simp only[Bool.and_eq_false_imp] at hb
   cases hwr:w.getLsbD r with
   | true=>exact hun r hr (hb hwr)
   | false=>exact (h.sound _ w hw).2 r hr hwr
 ·obtain⟨b',h1,h2⟩:=m3 _ _ h.base
  rw[h1]
  congr 1
  apply BitVec.eq_of_getLsbD_eq
  intro i hi
  cases hb:b'.getLsbD i with
  | true=>have:=h2 i hb; simp at this
  | false=>simp
 ·rcases m8 _ hc with h1 | ⟨h1,h2⟩
  ·exact h.found c p h1
  ·injection h1 with h1 h3; subst h1; subst h3
   exact⟨s,x,hs,rfl,hx,.inr ⟨hlg,.inr ⟨rfl,n,hn,h2⟩⟩⟩
 ·rcases m7 t ht with h1 | rfl
  ·obtain⟨b,hb⟩:=h.todo t h1
   obtain⟨b',h2,_⟩:=m3 t b hb
   exact⟨b',h2⟩
  ·obtain⟨b',h1,_⟩:=m5; exact⟨b',h1⟩
 ·rcases m6 t b hb with h1 | ⟨rfl,_⟩
  ·exact h.range t b h1
  ·exact zj3l hs0 hx hlen hn
 ·obtain⟨h1,h2,_⟩:=m4 t ht
  exact (h.done t b (h2 b hb) h1 hts).mono m1 m3
 ·obtain⟨h1,_,h3⟩:=m4 s ht
  exact h3 _ (h.self h1)
 ·obtain⟨b,hb⟩:=h.some'
  obtain⟨b',h1,_⟩:=m3 s b hb
  exact⟨b',h1⟩
 ·rcases List.mem_append.1 hq with hq | hq
  ·obtain⟨h1,b',h2,h3⟩:=h.gone q hq
   obtain⟨b2,h4,h5⟩:=m3 q b' h2
   exact⟨fun h=>m1 _ (h1 h),b2,h4,fun r hr=>h3 r (h5 r hr)⟩
  ·rw[List.mem_singleton.1 hq]
   exact⟨m9,m5⟩
theorem Mid.fold {cs:List In} {s:Spot} {x:In} {b0:Set8} (hx:cs[s.1.toNat]? = some x) (hlg:legalB x=true) (hs:Reach cs s) (hu:∀ r,r < 8→b0.getLsbD r=false→Unset cs r s) (hs0:0≤s.1) (hlen:cs.length≤1024) :
  ∀ (l2 l1:List Spot) (st:St),Mid cs s x b0 l1 st→(∀ n ∈ l2,n ∈ nxt x s)→Mid cs s x b0 (l1++l2) (l2.foldl (meet cs.length (b0 ||| setsB x) s.1) st)
 | [],l1,st,h,_=>by simpa using h
 | n :: l2,l1,st,h,hn=>by
  have:=Mid.fold hx hlg hs hu hs0 hlen l2 (l1++[n]) _ (h.meets hx hlg hs hu hs0 hlen (hn n (by simp))) (fun m hm=>hn m (by simp[hm]))
  simpa using this
theorem Inv.step {cs:List In} {s:Spot} {st:St} {rest:List Spot} (hlen:cs.length≤1024) (h:Inv cs st) (ht:st.todo=s :: rest):Inv cs (stepW cs s ⟨st.met,rest,st.fs⟩):=by
 obtain⟨b0,hb0⟩:=h.todo s (by rw[ht]; simp)
 obtain⟨hs,hu⟩:=h.sound s b0 hb0
 have hs0:=(h.range s b0 hb0).1
 have low:Inv0 cs ⟨st.met,rest,st.fs⟩:=⟨h.sound,h.base,h.found,fun t htt=>h.todo t (by rw[ht]; simp[htt]),h.range⟩
 have dn:∀ t b,get st.met t=some b→t ∉ rest→t ≠ s→Done cs st.met st.fs t b:=fun t b hb htr hts=>h.done t b hb (by rw[ht]; simp[hts,htr])
 unfold stepW
 cases hx:cs[s.1.toNat]? with
 | none =>
  simp only
  refine { toInv0:=low,done:=fun t b hb htr=>?_ }
  by_cases e:t=s
  ·subst e; intro x hx'; rw[hx] at hx'; cases hx'
  ·exact dn t b hb htr e
 | some x =>
  simp only
  by_cases hlg:legalB x=true
  ·rw[if_pos hlg]
   have hget:(get st.met s).getD 0#8=b0:=by rw[hb0]; rfl
   rw[hget]
   have m0:Mid cs s x b0 [] ⟨st.met,rest,st.fs++(fnd x s).map (·,s.1)⟩:=by
    refine { sound:=h.sound,base:=h.base,found:=fun c p hc=>?_,todo:=low.todo,range:=h.range,done:=fun t b hb htr hts=>(dn t b hb htr hts).mono (fun q hq=>by simp[hq]) (fun n b hb=>⟨b,hb,zj2u b⟩),self:=fun _=>hb0,some':=⟨b0,hb0⟩,ffs:=fun c hc=>?_,gone:=by simp }
    ·rcases List.mem_append.1 hc with hc | hc
     ·exact h.found c p hc
     ·obtain⟨c',hc',e⟩:=List.mem_map.1 hc
      injection e with e1 e2; subst e1; subst e2
      exact⟨s,x,hs,rfl,hx,.inr ⟨hlg,.inl hc'⟩⟩
    ·simp only[List.mem_append,List.mem_map]
     exact .inr ⟨c,hc,rfl⟩
   have mm:=Mid.fold hx hlg hs hu hs0 hlen (nxt x s) [] _ m0 (fun n hn=>hn)
   refine { sound:=mm.sound,base:=mm.base,found:=mm.found,todo:=mm.todo,range:=mm.range,done:=fun t b hb htr=>?_ }
   by_cases e:t=s
   ·subst e
    have:=mm.self htr
    rw[hb] at this; injection this with this; subst this
    intro x' hx'
    rw[hx] at hx'; injection hx' with hx'; subst hx'
    exact⟨fun h=>(by rw[hlg] at h; cases h),fun _=>⟨mm.ffs,fun n hn=>mm.gone n (by simpa using hn)⟩⟩
   ·exact mm.done t b hb htr e
  ·rw[if_neg hlg]
   have hlf:legalB x=false:=by simpa using hlg
   refine { sound:=h.sound,base:=h.base,found:=fun c p hc=>?_,todo:=low.todo,range:=h.range,done:=fun t b hb htr=>?_ }
   ·rcases List.mem_append.1 hc with hc | hc
    ·exact h.found c p hc
    ·rw[List.mem_singleton] at hc; injection hc with e1 e2; subst e1; subst e2
     exact⟨s,x,hs,rfl,hx,.inl ⟨rfl,hlf⟩⟩
   ·by_cases e:t=s
    ·subst e
     intro x' hx'
     rw[hx] at hx'; injection hx' with hx'; subst hx'
     exact⟨fun _=>by simp,fun h=>by rw[hlf] at h; cases h⟩
    ·exact (dn t b hb htr e).mono (fun q hq=>by simp[hq]) (fun n b hb=>⟨b,hb,zj2u b⟩)
def wgt (m:Met) (s:Spot):Nat:=match get m s with
 | none=>256
 | some b=>b.toNat
def univ:List Spot:=(List.range 1025).flatMap fun n:Nat=>[((n:Int),false),((n:Int),true)]
def total (m:Met):Nat:=(univ.map (wgt m)).sum
theorem univ_mem {s:Spot} (h0:0≤s.1) (h1:s.1≤1024):s ∈ univ:=by
 unfold univ
 rw[List.mem_flatMap]
 refine⟨s.1.toNat,by rw[List.mem_range]; omega,?_⟩
 obtain⟨p,b⟩:=s
 have e:((p.toNat:Nat):Int)=p:=by simp only at h0; omega
 simp only[e]
 cases b <;> simp
theorem sum_le {α:Type} {f g:α→Nat}:∀ (l:List α),(∀ x ∈ l,g x≤f x)→(l.map g).sum≤(l.map f).sum
 | [],_=>by simp
 | x :: l,h=>by
  have:=sum_le l (fun y hy=>h y (by simp[hy]))
  have:=h x (by simp)
  simp only[List.map_cons,List.sum_cons]; omega
theorem sum_lt {α:Type} {f g:α→Nat}:∀ (l:List α),(∀ x ∈ l,g x≤f x)→(∃ x ∈ l,g x < f x)→(l.map g).sum < (l.map f).sum
 | [],_,⟨_,h,_⟩=>by cases h
 | x :: l,h,⟨y,hy,hlt⟩=>by
  simp only[List.map_cons,List.sum_cons]
  rcases List.mem_cons.1 hy with rfl | hy
  ·have:=sum_le l (fun z hz=>h z (by simp[hz]))
   omega
  ·have:=sum_lt l (fun z hz=>h z (by simp[hz])) ⟨y,hy,hlt⟩
   have:=h x (by simp)
   omega
def mu (st:St):Nat:=2*total st.met+st.todo.length
theorem wgt_put (m:Met) (s t:Spot) (b:Set8):wgt (put m s b) t=if t=s then b.toNat else wgt m t:=by
 unfold wgt
 rw[zj1s]
 by_cases h:t=s <;> simp[h]
theorem and_lt {a b:Set8} (h:a &&& b ≠ a):(a &&& b).toNat < a.toNat:=by
 have h1:(a &&& b).toNat≤a.toNat:=by rw[BitVec.toNat_and]; exact Nat.and_le_left
 rcases Nat.lt_or_eq_of_le h1 with h2 | h2
 ·exact h2
 ·exact absurd (BitVec.eq_of_toNat_eq h2) h
theorem meet_mu (len:Int) (set:Set8) (p:Int) (st:St) (n:Spot) (h0:0≤n.1) (h1:n.1≤1024):mu (meet len set p st n)≤mu st:=by
 have key:∀ b:Set8,b.toNat < wgt st.met n→total (put st.met n b) < total st.met:=fun b hb=>by
  refine sum_lt univ (fun t _=>?_) ⟨n,univ_mem h0 h1,?_⟩
  ·rw[wgt_put]; split
   ·rename_i e; subst e; omega
   ·exact Nat.le_refl _
  ·rw[wgt_put,if_pos rfl]; exact hb
 unfold meet mu
 cases hg:get st.met n with
 | none =>
  have:=key (255#8 &&& set) (by unfold wgt; rw[hg]; exact BitVec.isLt _)
  simp only[List.length_append,List.length_cons,List.length_nil]; omega
 | some was =>
  simp only
  split
  ·rename_i hne
   have:=key (was &&& set) (by unfold wgt; rw[hg]; exact and_lt hne)
   simp only[List.length_append,List.length_cons,List.length_nil]; omega
  ·exact Nat.le_refl _
theorem fold_mu (len:Int) (set:Set8) (p:Int):∀ (l:List Spot) (st:St),(∀ n ∈ l,0≤n.1∧n.1≤1024)→mu (l.foldl (meet len set p) st)≤mu st
 | [],st,_=>Nat.le_refl _
 | n :: l,st,h=>Nat.le_trans (fold_mu len set p l _ fun m hm=>h m (by simp[hm])) (meet_mu len set p st n (h n (by simp)).1 (h n (by simp)).2)
theorem step_mu {cs:List In} {s:Spot} {st:St} {rest:List Spot} (hlen:cs.length≤1024) (h:Inv cs st) (ht:st.todo=s :: rest):mu (stepW cs s ⟨st.met,rest,st.fs⟩) < mu st:=by
 obtain⟨b0,hb0⟩:=h.todo s (by rw[ht]; simp)
 have hs0:=(h.range s b0 hb0).1
 have h1:mu ⟨st.met,rest,st.fs⟩ < mu st:=by unfold mu; rw[ht]; simp
 refine Nat.lt_of_le_of_lt ?_ h1
 unfold stepW
 cases hx:cs[s.1.toNat]? with
 | none=>exact Nat.le_refl _
 | some x =>
  simp only
  split
  ·exact fold_mu _ _ _ _ _ fun n hn=>zj3l hs0 hx hlen hn
  ·exact Nat.le_refl _
def st0:St:=⟨[((0,false),0#8)],[(0,false)],[]⟩
theorem Inv.start (cs:List In):Inv cs st0:=by
 have hg:∀ s b,get st0.met s=some b→s=(0,false)∧b=0#8:=fun s b h=>by
  simp only[st0,get] at h
  split at h
  ·rename_i e; injection h with h; exact⟨e,h.symm⟩
  ·cases h
 refine { sound:=fun s b hb=>?_,base:=rfl,found:=fun c p hc=>by simp[st0] at hc,todo:=fun s hs=>⟨0#8,?_⟩,range:=fun s b hb=>?_,done:=fun t b hb ht=>?_ }
 ·obtain⟨rfl,rfl⟩:=hg s b hb
  exact⟨.start,fun r _ _=>.start⟩
 ·simp[st0] at hs; subst hs; rfl
 ·obtain⟨rfl,rfl⟩:=hg s b hb; simp
 ·obtain⟨rfl,rfl⟩:=hg t b hb; simp[st0] at ht
structure Fin (cs:List In) (met:Met) (fs:List (Int × Int)):Prop where
 reach:∀ s,(∃ b,get met s=some b) ↔ Reach cs s
 unset:∀ s b,get met s=some b→∀ r,r < 8→(b.getLsbD r=false ↔ Unset cs r s)
 found:∀ c p,(c,p) ∈ fs ↔ WalkBad cs c p
theorem Inv.fin {cs:List In} {st:St} (h:Inv cs st) (ht:st.todo=[]):Fin cs st.met st.fs:=by
 have dn:∀ t b,get st.met t=some b→Done cs st.met st.fs t b:=fun t b hb=>h.done t b hb (by rw[ht]; simp)
 have hr:∀ s,Reach cs s→∃ b,get st.met s=some b:=by
  intro s hs
  induction hs with
  | start=>exact⟨_,h.base⟩
  | step s n x _ hx hlg hn ih =>
   obtain⟨b,hb⟩:=ih
   obtain⟨_,b',hb',_⟩:=((dn s b hb x hx).2 hlg).2 n hn
   exact⟨b',hb'⟩
 have hu:∀ r,∀ s,Unset cs r s→∃ b,get st.met s=some b∧b.getLsbD r=false:=by
  intro r s hs
  induction hs with
  | start=>exact⟨_,h.base,by simp⟩
  | step s n x _ hx hlg hset hn ih =>
   obtain⟨b,hb,hbr⟩:=ih
   obtain⟨_,b',hb',hsub⟩:=((dn s b hb x hx).2 hlg).2 n hn
   refine⟨b',hb',?_⟩
   cases e:b'.getLsbD r with
   | false=>rfl
   | true =>
    have:=hsub r e
    rw[BitVec.getLsbD_or,hbr,hset] at this
    simp at this
 refine⟨fun s=>⟨fun⟨b,hb⟩=>(h.sound s b hb).1,hr s⟩,fun s b hb r hr8=>⟨(h.sound s b hb).2 r hr8,fun hus=>?_⟩,fun c p=>⟨h.found c p,fun hw=>?_⟩⟩
 ·obtain⟨b',hb',hbr⟩:=hu r s hus
  rw[hb] at hb'; injection hb' with hb'; subst hb'; exact hbr
 ·obtain⟨s,x,hs,rfl,hx,hw⟩:=hw
  obtain⟨b,hb⟩:=hr s hs
  obtain⟨d1,d2⟩:=dn s b hb x hx
  rcases hw with⟨rfl,hlf⟩ | ⟨hlg,hc | ⟨rfl,n,hn,hn2⟩⟩
  ·exact d1 hlf
  ·exact (d2 hlg).1 c hc
  ·exact ((d2 hlg).2 n hn).1 hn2
structure Rn where
 rs:List Int
 pc:Int
 inn:Bool
 n:Int
 st:List Bool
def endN (e:Ef) (inn:Bool):Int :=
 if e.kind=0 then -1 else if e.kind=5∧inn=true then -3 else if e.kind=6∧inn=false then -2 else if e.kind=7∧inn=true then -4 else if e.kind=7 then 1 else 0
theorem zj21 {x:In} (h:legalB x=true):isOp x.op=true:=by
 unfold legalB at h; simp only[Bool.and_eq_true] at h; exact h.1.1.1
theorem legal_reg {x:In} (h:legalB x=true):(hasL x.op 65=true→isReg x.a=true)∧(hasL x.op 66=true→isReg x.b=true)∧(hasL x.op 67=true→isReg x.c=true):=by
 unfold legalB at h; simp only[Bool.and_eq_true,Bool.or_eq_true,Bool.not_eq_true'] at h
 refine⟨fun k=>?_,fun k=>?_,fun k=>?_⟩
 ·rcases h.1.1.2 with h | h
  ·rw[h] at k; cases k
  ·exact h
 ·rcases h.1.2 with h | h
  ·rw[h] at k; cases k
  ·exact h
 ·rcases h.2 with h | h
  ·rw[h] at k; cases k
  ·exact h
theorem reg_range {n:Int} (h:isReg n=true):0≤n∧n < 8:=by simpa [isReg] using h
theorem do_sets {x:In} {r:List Int} {p:Int} (hl:legalB x=true) (h0:0≤p) (h1:p < 1024) :
  (((doB x r p).kind=1∨(doB x r p).kind=3) ↔ (2≤x.op∧x.op≤11))∧((2≤x.op∧x.op≤11)→(doB x r p).reg=x.a∧0≤x.a∧x.a < 8):=by
 have hr:=legal_reg hl
 unfold doB
 rw[if_pos ⟨hl,h0,h1⟩]
 rcases zj0g (zj21 hl) with h | h | h | h | h | h | h | h | h | h | h | h | h | h | h | h | h | h <;>
  (try (have ha : hasL x.op 65 = true := by rw [h]; decide
        have:=reg_range (hr.1 ha)))
 all_goals (clear hr hl; simp only[h,doE,goE]; first | (simp[*]; done) | (simp; repeat' split; all_goals simp_all [Ef.zero]))
theorem do_nxt {x:In} {r:List Int} {p:Int} {inn:Bool} (hl:legalB x=true) (h0:0≤p) (h1:p < 1024) (he:endN (doB x r p) inn=0) :
  ((doB x r p).next,if (doB x r p).kind=5 then true else if (doB x r p).kind=6 then false else inn) ∈ nxt x (p,inn):=by
 revert he
 unfold doB
 rw[if_pos ⟨hl,h0,h1⟩]
 rcases zj0g (zj21 hl) with h | h | h | h | h | h | h | h | h | h | h | h | h | h | h | h | h | h <;>
  (clear hl; simp only[h,doE,goE,endN,nxt]; cases inn <;> (try simp[Ef.zero]))
 all_goals (split <;> (try split) <;> simp_all [Ef.zero])
theorem do_kind (x:In) (r:List Int) (p:Int):0≤(doB x r p).kind∧(doB x r p).kind≤7:=by
 unfold doB
 by_cases hl:legalB x=true∧0≤p∧p < 1024
 ·rw[if_pos hl]
  have h4:∀ (i:Int) (b:Bool),0≤(goE i p b).kind∧(goE i p b).kind≤7:=fun i b=>by
   unfold goE; cases b
   ·simp
   ·by_cases k:i < 0∨1024 < i
    ·simp[k,Ef.zero]
    ·simp[k]
  rcases zj0g (zj21 hl.1) with h | h | h | h | h | h | h | h | h | h | h | h | h | h | h | h | h | h <;> (simp only[doE,h]; simp)
  all_goals exact h4 _ _
 ·rw[if_neg hl]; simp[Ef.zero]
structure RnOk (l:List In) (s:Rn):Prop where
 r8:s.rs.length=8
 s8:s.st.length=8
 u:∀ v ∈ s.rs,isU v
 n0:0≤s.n
 p0:0≤s.pc
 p1:s.pc≤1024
 reach:Reach l (s.pc,s.inn)
 unset:∀ r,s.st[r]? = some false→Unset l r (s.pc,s.inn)
theorem doB_value {x:In} {r:List Int} {p:Int} (hU:∀ v ∈ r,isU v):isU (doB x r p).value:=by
 have hg:∀ n,isU (rg r n):=fun n=>by
  unfold rg
  rw[List.getD_eq_getElem?_getD]
  cases h:r[(n % 8).toNat]? with
  | none=>simp[isU]
  | some v=>exact hU v (List.mem_of_getElem? h)
 have hw:∀ n,isU (w64 n):=fun n=>by unfold w64 isU; omega
 have h0:isU 0:=by unfold isU; omega
 unfold doB
 by_cases hl:legalB x=true∧0≤p∧p < 1024
 ·rw[if_pos hl]
  have h4:∀ (i:Int) (b:Bool),isU (goE i p b).value:=fun i b=>by
   unfold goE; cases b
   ·exact h0
   ·by_cases k:i < 0∨1024 < i
    ·simp[k,Ef.zero,h0]
    ·simp[k,h0]
  rcases zj0g (zj21 hl.1) with h | h | h | h | h | h | h | h | h | h | h | h | h | h | h | h | h | h <;> (simp only[doE,h]; simp)
  all_goals first | exact hw _ | exact hg _ | exact h0 | exact h4 _ _ | skip
  all_goals
   have h1:=hg x.b
   have h2:(0:Int) < 2 ^ (rg r x.c % 64).toNat:=Int.pow_pos (by decide)
   exact⟨Int.ediv_nonneg h1.1 (Int.le_of_lt h2),Int.lt_of_le_of_lt (b:=rg r x.b) (Int.ediv_le_self _ h1.1) h1.2⟩
 ·rw[if_neg hl]; exact h0
structure Alike (s t:Rn):Prop where
 pc:s.pc=t.pc
 inn:s.inn=t.inn
 n:s.n=t.n
 st:s.st=t.st
 rs:∀ r:Nat,s.st[r]? = some true→s.rs[r]? = t.rs[r]?
def u8V (b:Set8):Value:=.int .u8 b.toNat
def spotV (s:Spot):Value:=.agg #[.int .i64 s.1,.bool s.2]
def metV (m:Met):List (Value × Value):=m.map fun p=>(spotV p.1,u8V p.2)
def fsV (l:List (Int × Int)):List Value:=l.flatMap fun p=>[.int .i64 p.1,.int .i64 p.2]
def spotsV (l:List Spot):List Value:=l.flatMap fun s=>[.int .i64 s.1,.bool s.2]
theorem spotV_inj {s t:Spot} (h:spotV s=spotV t):s=t:=by
 unfold spotV at h
 injection h with h
 have:=congrArg Array.toList h
 simp only[List.cons.injEq,Value.int.injEq,Value.bool.injEq,true_and,and_true] at this
 exact Prod.ext this.1 this.2
theorem zj5f:∀ (m:Met) (s:Spot),GetA (metV m) (spotV s) ((get m s).map u8V)
 | [],s=>rfl
 | (q,b) :: m,s=>by
  show (spotV s=spotV q∧_)∨(spotV s ≠ spotV q∧_)
  by_cases h:s=q
  ·subst h; exact .inl ⟨rfl,by simp[get]⟩
  ·exact .inr ⟨fun e=>h (spotV_inj e),by simp only[get,if_neg h]; exact zj5f m s⟩
theorem putA_met:∀ (m:Met) (s:Spot) (b:Set8),PutA (metV m) (spotV s) (u8V b) (metV (put m s b))
 | [],s,b=>rfl
 | (q,c) :: m,s,b=>by
  show (spotV s=spotV q∧_)∨(spotV s ≠ spotV q∧_)
  by_cases h:s=q
  ·subst h; exact .inl ⟨rfl,by simp[put,metV]⟩
  ·exact .inr ⟨fun e=>h (spotV_inj e),_,putA_met m s b,by simp only[put,if_neg h]; rfl⟩
def Rg (m:Met):Prop:=∀ p ∈ m,0≤p.1.1∧p.1.1≤1024
theorem zj5g {s:Spot} (h0:0≤s.1) (h1:s.1≤1024):fitV [.int .i64,.bool] (spotV s)=true:=by
 simp only[fitV,spotV,fitL,fitC,kEq]
 have:(Lit.int .i64 s.1).wf=true:=by simp[Lit.wf,IntKind.min,IntKind.max,IntKind.signed,IntKind.bits]; omega
 rw[this]
theorem fit_met {m:Met} (h:Rg m):∀ p ∈ metV m,fitV [.int .i64,.bool] p.1=true:=by
 intro p hp
 obtain⟨q,hq,rfl⟩:=List.mem_map.1 hp
 exact zj5g (h q hq).1 (h q hq).2
theorem Rg.put {m:Met} {s:Spot} {b:Set8} (h:Rg m) (h0:0≤s.1) (h1:s.1≤1024):Rg (put m s b):=put_keys (P:=fun s=>0≤s.1∧s.1≤1024) h ⟨h0,h1⟩
theorem Rg.meet {len:Int} {set:Set8} {p:Int} {st:St} {n:Spot} (h:Rg st.met) (h0:0≤n.1) (h1:n.1≤1024):Rg (meet len set p st n).met:=by
 unfold Lint.meet
 cases get st.met n with
 | none=>exact h.put h0 h1
 | some was =>
  by_cases e:was &&& set ≠ was
  ·simp only[if_pos e]; exact h.put h0 h1
  ·simp only[if_neg e]; exact h
theorem fold_rg {len:Int} {set:Set8} {p:Int}:∀ (l:List Spot) (st:St),Rg st.met→(∀ n ∈ l,0≤n.1∧n.1≤1024)→Rg (l.foldl (meet len set p) st).met∧(l.foldl (meet len set p) st).fs.length≤st.fs.length+l.length
 | [],st,h,_=>⟨h,by simp⟩
 | n :: l,st,h,hn=>by
  have h1:=hn n (by simp)
  obtain⟨r1,r2⟩:=fold_rg (len:=len) (set:=set) (p:=p) l (meet len set p st n) (h.meet h1.1 h1.2) fun m hm=>hn m (by simp[hm])
  have:=(meet_len len set p st n).1
  refine⟨r1,?_⟩
  simp only[List.foldl_cons,List.length_cons]
  omega
theorem nxt_len (x:In) (s:Spot):(nxt x s).length≤2:=by
 unfold nxt
 repeat' (split)
 all_goals simp
theorem fnd_len (x:In) (s:Spot):(fnd x s).length≤1:=by
 unfold fnd
 repeat' (split)
 all_goals simp
theorem of8 (a:Set8):BitVec.ofInt 8 (a.toNat:Int)=a:=by
 rw[BitVec.ofInt_natCast,BitVec.ofNat_toNat,BitVec.setWidth_eq]
theorem wrap8 (a:Set8):IntKind.u8.wrap (a.toNat:Int)=a.toNat:=by
 rw[IntKind.wrap_u8]; have:=a.isLt; omega
theorem or8 (a b:Set8):BitOk .or .u8 a.toNat b.toNat (a ||| b).toNat:=by
 show _=IntKind.u8.wrap _
 rw[show IntKind.bits .u8=8 from rfl,of8,of8,wrap8]
theorem and8 (a b:Set8):BitOk .and .u8 a.toNat b.toNat (a &&& b).toNat:=by
 show _=IntKind.u8.wrap _
 rw[show IntKind.bits .u8=8 from rfl,of8,of8,wrap8]
theorem andn8 (a b:Set8):BitOk .andNot .u8 a.toNat b.toNat (a &&& ~~~ b).toNat:=by
 show _=IntKind.u8.wrap _
 rw[show IntKind.bits .u8=8 from rfl,of8,of8,wrap8]
theorem shl8 {n:Int} (h0:0≤n) (h1:n < 8):ShOk .shl .u8 1 n (bit n).toNat:=by
 refine⟨h0,?_⟩
 have:n=0∨n=1∨n=2∨n=3∨n=4∨n=5∨n=6∨n=7:=by omega
 rcases this with rfl | rfl | rfl | rfl | rfl | rfl | rfl | rfl <;> rfl
theorem eq8 {a b:Set8}:((a.toNat:Int)=b.toNat) ↔ a=b:=by
 constructor
 ·intro h; exact BitVec.eq_of_toNat_eq (by omega)
 ·intro h; rw[h]
def bitsL (l:List Int):Set8:=l.foldl (fun o r=>o ||| bit r) 0#8
theorem zj40 (l m:List (Int × Int)):fsV (l++m)=fsV l++fsV m:=by simp[fsV]
theorem zj4n (l:List (Int × Int)):(fsV l).length=l.length*2:=zj2j (f:=fun p:Int × Int=>[Value.int .i64 p.1,.int .i64 p.2]) (sz:=2) (fun _=>rfl) l
theorem spotsV_app (l m:List Spot):spotsV (l++m)=spotsV l++spotsV m:=by simp[spotsV]
theorem spotsV_len (l:List Spot):(spotsV l).length=l.length*2:=zj2j (f:=fun s:Spot=>[Value.int .i64 s.1,.bool s.2]) (sz:=2) (fun _=>rfl) l
theorem zj41 {x:In} (h:legalB x=true):((2≤x.op∧x.op≤12)∨(14≤x.op∧x.op≤16)→0≤x.a∧x.a < 8)∧((3≤x.op∧x.op≤12)∨(14≤x.op∧x.op≤16)→0≤x.b∧x.b < 8)∧(4≤x.op∧x.op≤10→0≤x.c∧x.c < 8):=by
 simp only[legalB,Bool.and_eq_true,Bool.or_eq_true,Bool.not_eq_true'] at h
 obtain⟨⟨⟨ho,ha⟩,hb⟩,hc⟩:=h
 have reg:∀ n,isReg n=true→0≤n∧n < 8:=fun n h=>by simpa [isReg] using h
 have key:∀ (c:Int) (P:Prop),hasL x.op c=true→(hasL x.op c=false∨P)→P:=fun c P h1 h2=>h2.elim (fun e=>by rw[h1] at e; cases e) id
 refine⟨fun hx=>reg _ (key 65 _ ?_ ha),fun hx=>reg _ (key 66 _ ?_ hb),fun hx=>reg _ (key 67 _ ?_ hc)⟩
 all_goals rcases zj0g ho with e | e | e | e | e | e | e | e | e | e | e | e | e | e | e | e | e | e <;> rw[e] at hx ⊢ <;> first | rfl | (exfalso; omega)
end Go.Lint
namespace Go.Isa
open Go
def fo (c:Int):Nat:=if c=65 then 1 else if c=66 then 2 else if c=67 then 3 else if c=73 then 4 else 0
def fld (x:In) (c:Int):Int:=if c=65 then x.a else if c=66 then x.b else if c=67 then x.c else if c=73 then x.imm else x.op
def ok1 (x:In) (c:Int):Bool:=hasL x.op c || fld x c == 0
def plainB (x:In):Bool:=legalB x && (ok1 x 65 && ok1 x 66 && ok1 x 67 && ok1 x 73)
def wds:List (List UInt8):=[[],[104,97,108,116],[115,101,116],[109,111,118],[97,100,100],[115,117,98],[109,117,108],[97,110,100],[120,111,114],[115,104,108],[115,104,114],[108,111,97,100],[115,116,111,114,101],[106,117,109,112],[101,113],[110,101],[108,116],[98,101,103,105,110],[101,110,100]]
def wdL (op:Int):List UInt8:=wds.getD op.toNat []
def rawW:List UInt8:=[114,97,119]
def rawN:List UInt8:=[79,65,66,67,73]
def argL (x:In) (nm:List UInt8):List UInt8:=nm.flatMap fun c=>32 :: Lib.itoa (fld x c.toNat)
def textL (x:In):List UInt8:=if plainB x then wdL x.op++argL x (nmL x.op) else rawW++argL x rawN
def in64 (x:In):Prop:=is64 x.op∧is64 x.a∧is64 x.b∧is64 x.c∧is64 x.imm
def setF (x:In) (c:Int) (n:Int):In:=if c=65 then { x with a:=n } else if c=66 then { x with b:=n } else if c=67 then { x with c:=n } else if c=73 then { x with imm:=n } else { x with op:=n }
def setL (x:In):List UInt8→List ByteArray→Option In
 | [],_=>some x
 | c :: nm,w :: ws=>match Lib.atoiAll w.data.toList with | .ok n=>setL (setF x c.toNat n) nm ws | _=>none
 | _ :: _,[]=>none
def tryL (x:In) (nm:List UInt8) (ws:List ByteArray) (s:List UInt8):Option In :=
 if ws.length=nm.length+1 then (match setL x nm (ws.drop 1) with | some y=>if textL y=s then some y else none | none=>none) else none
def Ltr (c:UInt8):Prop:=c=65∨c=66∨c=67∨c=73∨c=79
def zeroI:In:=⟨0,0,0,0,0⟩
def opI (op:Int):In:=⟨op,0,0,0,0⟩
def wsL (s:List UInt8):List ByteArray:=Lib.splitB ⟨⟨[32]⟩⟩ 0 (Lib.countB ⟨⟨s⟩⟩ ⟨⟨[32]⟩⟩) ⟨⟨s⟩⟩
def w0L (s:List UInt8):List UInt8:=((wsL s).headD ⟨⟨[]⟩⟩).data.toList
def findL (s:List UInt8):Nat→Int→Option In
 | 0,_=>none
 | n+1,op=>if 1≤op∧wdL op=w0L s then (match tryL (opI op) (nmL op) (wsL s) s with | some y=>some y | none=>findL s n (op+1)) else findL s n (op+1)
def parseL (s:List UInt8):Option In:=if w0L s=rawW then tryL zeroI rawN (wsL s) s else findL s 19 0
end Go.Isa
namespace Go.Asm
open Go Go.Isa
abbrev B:=List UInt8
def isBl (c:UInt8):Bool:=c == 32 || c == 9
def cutRem (s:B):B:=s.takeWhile fun c=>!(c == 59)
def endBl (s:B):B:=(s.reverse.dropWhile isBl).reverse
def trimBl (s:B):B:=(endBl s).dropWhile isBl
def pieces (acc:B):B→List B
 | []=>[acc]
 | c :: s=>if c=10 then acc :: pieces [] s else pieces (acc++[c]) s
def linesF:List B→Nat→List (Nat × B)
 | [],_=>[]
 | p :: ps,n=>match trimBl (cutRem p) with
  | []=>linesF ps (n+1)
  | c :: r=>(n,c :: r) :: linesF ps (n+1)
def linesL (t:B):List (Nat × B):=linesF (pieces [] t) 1
def wordN (s:B):Nat→Bool
 | 0=>false
 | n+1=>wordN s n || (wdL ((n:Int)+1) == s)
def wordB (s:B):Bool:=s == rawW || wordN s 18
def nmCh (c:UInt8):Bool:=(decide (97≤c.toNat) && decide (c.toNat≤122)) || (decide (48≤c.toNat) && decide (c.toNat≤57)) || c == 95
def nameB (s:B):Bool:=match s with
 | []=>false
 | c :: _=>decide (s.length≤16) && decide (97≤c.toNat) && decide (c.toNat≤122) && s.all nmCh && !wordB s
def toldL (s:B):Option B:=if Lib.hasSuffix s [58]=true∧nameB s.dropLast=true then some s.dropLast else none
def lastBl:B→Option Nat
 | []=>none
 | c :: s=>match lastBl s with
  | some k=>some (k+1)
  | none=>if c=32 then some 0 else none
def goOp (op:Int):Bool:=decide (13≤op) && decide (op≤16)
def oneL (s:B):Option (In × B):=match parseL s with
 | some x=>some (x,[])
 | none=>match lastBl s with
  | none=>none
  | some k=>if nameB (s.drop (k+1))=true then (match parseL (s.take k++[32,48]) with
    | some x=>if goOp x.op=true∧legalB x=true∧Lib.hasPrefix s rawW=false then some (x,s.drop (k+1)) else none
    | none=>none) else none
structure Ln where
 n:Nat
 x:In
 name:B
def readL:List (Nat × B)→List Ln→List (B × Nat)→List Ln × List (B × Nat) × Nat
 | [],l,lb=>(l,lb,0)
 | (n,s) :: r,l,lb=>match toldL s with
  | some nm=>if nm ∈ lb.map (·.1) then (l,lb,n) else readL r l (lb++[(nm,l.length)])
  | none=>match oneL s with
   | none=>(l,lb,n)
   | some (x,to)=>if 1024≤l.length then (l,lb,n) else readL r (l++[⟨n,x,to⟩]) lb
def allN (ls:List (Nat × B)):List B:=ls.filterMap fun p=>toldL p.2
def wrongL (told:List B):List Ln→Nat→Nat
 | [],bad=>bad
 | x :: l,bad=>if x.name ≠ []∧x.name ∉ told then x.n else wrongL told l bad
def place (lb:List (B × Nat)) (nm:B):Nat:=match lb with
 | []=>0
 | (a,k) :: r=>if a=nm then k else place r nm
def outL (lb:List (B × Nat)) (l:List Ln):List In:=l.map fun y=>if y.name=[] then y.x else { y.x with imm:=place lb y.name }
def asmL (t:B):List In × List (B × Nat) × Nat :=
 let r:=readL (linesL t) [] []
 let w:=wrongL (allN (linesL t)) r.1 r.2.2
 if w=0 then (outL r.2.1 r.1,r.2.1,0) else ([],[],w)
end Go.Asm
namespace Go.Nl
open Go Go.Lib
def sp:ByteArray:=⟨⟨[10]⟩⟩
def jn (w:List UInt8) (ps:List (List UInt8)):List UInt8:=w++ps.flatMap fun p=>10 :: p
def no10 (w:List UInt8):Prop:=∀ c ∈ w,c ≠ 10
theorem ib_none:∀ {w:List UInt8},no10 w→indexByte w 10 = -1
 | [],_=>rfl
 | b :: l,h=>by
  unfold indexByte
  rw[if_neg (by simpa using h b (by simp)),ib_none (fun c hc=>h c (by simp[hc]))]; rfl
theorem ib_at:∀ {w:List UInt8} (r:List UInt8),no10 w→indexByte (w++10 :: r) 10=w.length
 | [],r,_=>by simp[indexByte]
 | b :: l,r,h=>by
  rw[List.cons_append]
  unfold indexByte
  rw[if_neg (by simpa using h b (by simp)),ib_at r (fun c hc=>h c (by simp[hc])),if_neg (by simp)]
  simp
theorem idx_none {w:List UInt8} (h:no10 w):indexB ⟨⟨w⟩⟩ sp = -1:=by
 show index w [10] = -1
 rw[index_one,ib_none h]
theorem idx_at {w:List UInt8} (r:List UInt8) (h:no10 w):indexB ⟨⟨w++10 :: r⟩⟩ sp=w.length:=by
 show index (w++10 :: r) [10]=_
 rw[index_one,ib_at r h]
theorem ba_eq {a b:ByteArray} (h:a.data.toList=b.data.toList):a=b:=by
 cases a; cases b; congr 1; exact Array.toList_inj.1 h
theorem ext_rest (w r:List UInt8):(⟨⟨w++10 :: r⟩⟩:ByteArray).extract (w.length+sp.size) (⟨⟨w++10 :: r⟩⟩:ByteArray).size=⟨⟨r⟩⟩:=by
 apply ba_eq
 rw[extract_to_end]
 show (w++10 :: r).drop (w.length+1)=r
 rw[List.drop_append]; simp
theorem ext_head (w r:List UInt8):(⟨⟨w++10 :: r⟩⟩:ByteArray).extract 0 (w.length+0)=⟨⟨w⟩⟩:=by
 apply ba_eq
 rw[extract_data]
 show ((w++10 :: r).drop 0).take (w.length+0 - 0)=w
 simp
theorem jn_cons (w p:List UInt8) (ps:List (List UInt8)):jn w (p :: ps)=w++10 :: jn p ps:=by simp[jn]
theorem split_jn:∀ (ps:List (List UInt8)) (w:List UInt8),no10 w→(∀ p ∈ ps,no10 p)→∀ k,ps.length≤k→splitB sp 0 k ⟨⟨jn w ps⟩⟩=(w :: ps).map fun p=>⟨⟨p⟩⟩
 | [],w,hw,_,k,_=>by
  have:jn w []=w:=by simp[jn]
  rw[this,splitB_miss _ _ _ _ (idx_none hw)]; rfl
 | p :: ps,w,hw,hp,k+1,hk=>by
  rw[jn_cons,splitB_hit sp 0 k _ w.length (idx_at _ hw),ext_rest,ext_head,split_jn ps p (hp p (by simp)) (fun q hq=>hp q (by simp[hq])) k (by simp at hk; omega)]
  rfl
theorem count_jn:∀ (ps:List (List UInt8)) (w:List UInt8),no10 w→(∀ p ∈ ps,no10 p)→countB ⟨⟨jn w ps⟩⟩ sp=ps.length
 | [],w,hw,_=>by
  have:jn w []=w:=by simp[jn]
  rw[this,countB_miss _ _ (idx_none hw)]; rfl
 | p :: ps,w,hw,hp=>by
  rw[jn_cons,countB_hit _ sp w.length (by decide) (idx_at _ hw),ext_rest,count_jn ps p (hp p (by simp)) (fun q hq=>hp q (by simp[hq]))]
  simp; omega
theorem words_jn (ps:List (List UInt8)) (w:List UInt8) (hw:no10 w) (hp:∀ p ∈ ps,no10 p):splitB sp 0 (countB ⟨⟨jn w ps⟩⟩ sp) ⟨⟨jn w ps⟩⟩=(w :: ps).map fun p=>⟨⟨p⟩⟩:=by
 rw[count_jn ps w hw hp]; exact split_jn ps w hw hp _ (Nat.le_refl _)
def spl (acc:List UInt8):List UInt8→List (List UInt8)
 | []=>[acc]
 | c :: r=>if c=10 then acc :: spl [] r else spl (acc++[c]) r
theorem spl_jn:∀ (s acc:List UInt8),no10 acc→∃ w ps,acc++s=jn w ps∧spl acc s=w :: ps∧no10 w∧∀ p ∈ ps,no10 p
 | [],acc,h=>⟨acc,[],by simp[jn],rfl,h,by simp⟩
 | c :: r,acc,h=>by
  by_cases hc:c=10
  ·subst hc
   obtain⟨w,ps,h1,h2,h3,h4⟩:=spl_jn r [] (by intro c hc; simp at hc)
   refine⟨acc,w :: ps,?_,?_,h,?_⟩
   ·rw[jn_cons,← h1]; rfl
   ·rw[spl,if_pos rfl,h2]
   ·intro p hp
    rcases List.mem_cons.1 hp with rfl | hp
    ·exact h3
    ·exact h4 p hp
  ·obtain⟨w,ps,h1,h2,h3,h4⟩:=spl_jn r (acc++[c]) (by
    intro d hd
    rcases List.mem_append.1 hd with hd | hd
    ·exact h d hd
    ·rw[List.mem_singleton.1 hd]; exact hc)
   refine⟨w,ps,?_,?_,h3,h4⟩
   ·rw[← h1]; simp
   ·rw[spl,if_neg hc,h2]
theorem split_spl (s:List UInt8):splitB sp 0 (countB ⟨⟨s⟩⟩ sp) ⟨⟨s⟩⟩=(spl [] s).map fun p=>⟨⟨p⟩⟩:=by
 obtain⟨w,ps,h1,h2,h3,h4⟩:=spl_jn s [] (by intro c hc; simp at hc)
 rw[List.nil_append] at h1
 rw[h2,h1,words_jn ps w h3 h4]
theorem zj42:∀ (s acc:List UInt8),spl acc s=Go.Asm.pieces acc s
 | [],acc=>rfl
 | c :: r,acc=>by unfold spl Go.Asm.pieces; rw[zj42 r [],zj42 r (acc++[c])]
theorem split_lines (s:List UInt8):splitB sp 0 (countB ⟨⟨s⟩⟩ sp) ⟨⟨s⟩⟩=(Go.Asm.pieces [] s).map fun p=>⟨⟨p⟩⟩:=by rw[split_spl,zj42]
end Go.Nl
namespace Go.Asm
open Go Go.Lib
theorem cut_rem:∀ (s:B),(cut s [59]).1=cutRem s:=by
 intro s
 unfold cut
 rw[index_one]
 have key:∀ s:B,(indexByte s 59 = -1∧cutRem s=s)∨(0≤indexByte s 59∧cutRem s=s.take (indexByte s 59).toNat):=by
  intro s
  induction s with
  | nil=>left; exact⟨rfl,rfl⟩
  | cons c r ih =>
   unfold indexByte cutRem
   by_cases hc:c=59
   ·subst hc; right; simp
   ·have hb:(c == (59:UInt8))=false:=by simpa using hc
    rw[List.takeWhile_cons]
    simp only[hb,Bool.not_false,if_true,Bool.false_eq_true,if_false]
    rcases ih with⟨h1,h2⟩ | ⟨h1,h2⟩
    ·left; rw[h1]; exact⟨rfl,by unfold cutRem at h2; rw[h2]⟩
    ·right
     have hn:(indexByte r 59 == -1)=false:=by simp; omega
     simp only[hn,Bool.false_eq_true,if_false]
     refine⟨by omega,?_⟩
     unfold cutRem at h2
     rw[h2,show (indexByte r 59+1).toNat=(indexByte r 59).toNat+1 by omega,List.take_succ_cons]
 rcases key s with⟨h1,h2⟩ | ⟨h1,h2⟩
 ·rw[h1,h2]; rfl
 ·rw[if_pos h1,h2]
theorem cs_bl (b:UInt8):[32,9].contains b=isBl b:=by
 simp only[List.contains,List.elem,isBl]
 cases (b == 32) <;> cases (b == 9) <;> rfl
theorem trim_bl (s:B):trimS s [32,9]=trimBl s:=by
 unfold trimS trimLeftS trimRightS trimBl endBl
 have:(fun b=>[32,9].contains b)=isBl:=funext cs_bl
 simp only[this]
theorem suf_dot (s:B) (c:UInt8):trimSuffix s [c]=if hasSuffix s [c]=true then s.dropLast else s:=by
 unfold trimSuffix
 split
 ·rw[List.dropLast_eq_take]; rfl
 ·rfl
end Go.Asm
namespace Go.Asm
open Go Go.Sx
def StOk (m:List (Value × Value)):Prop:=∀ p ∈ m,∃ (k:ByteArray) (n:Int),p.1=.string k∧p.2=.int .i64 n
theorem zj2v (q v:Value) (l:List (Value × Value)) (w:Value):mget ((q,v) :: l) w=if keyB w q=true then some v else mget l w:=by
 cases h:keyB w q <;> simp[mget,h]
theorem sput_cons (q v:Value) (l:List (Value × Value)) (w u:Value):mput ((q,v) :: l) w u=if keyB w q=true then (w,u) :: l else (q,v) :: mput l w u:=by
 cases h:keyB w q <;> simp[mput,h]
theorem zj43 (a b:ByteArray):(keyB (.string a) (.string b)=true)=(a=b):=by
 cases a with
 | mk da =>
  cases b with
  | mk db =>
   show ((da == db)=true)=_
   rw[beq_iff_eq,ByteArray.mk.injEq]
theorem StOk.nil:StOk []:=fun p hp=>by simp at hp
theorem StOk.put {m:List (Value × Value)} (h:StOk m) (k:ByteArray) (n:Int):StOk (mput m (.string k) (.int .i64 n)):=by
 induction m with
 | nil=>intro p hp; simp[mput] at hp; subst hp; exact⟨k,n,rfl,rfl⟩
 | cons q m ih =>
  obtain⟨q,u⟩:=q
  intro p hp
  rw[sput_cons] at hp
  split at hp
  ·rcases List.mem_cons.1 hp with rfl | hp
   ·exact⟨k,n,rfl,rfl⟩
   ·exact h p (by simp[hp])
  ·rcases List.mem_cons.1 hp with rfl | hp
   ·exact h _ (by simp)
   ·exact ih (fun p hp=>h p (by simp[hp])) p hp
theorem sget_sput {m:List (Value × Value)} (h:StOk m) (k j:ByteArray) (n:Int):mget (mput m (.string k) (.int .i64 n)) (.string j)=if j=k then some (.int .i64 n) else mget m (.string j):=by
 induction m with
 | nil=>simp only[mput,zj2v,zj43]
 | cons q m ih =>
  obtain⟨q,u⟩:=q
  obtain⟨b,z,h1,h2⟩:=h (q,u) (by simp)
  simp only at h1 h2
  subst h1; subst h2
  have ih:=ih fun p hp=>h p (by simp[hp])
  rw[sput_cons]
  simp only[zj43]
  by_cases e:k=b
  ·subst e
   rw[if_pos rfl,zj2v]
   simp only[zj43]
   by_cases e2:j=k
   ·rw[if_pos e2,if_pos e2]
   ·rw[if_neg e2,if_neg e2,zj2v]; simp only[zj43]; rw[if_neg e2]
  ·rw[if_neg e,zj2v,zj2v,ih]
   simp only[zj43]
   by_cases e2:j=b
   ·rw[if_pos e2,if_pos e2,if_neg (fun h=>e (h.symm.trans e2))]
   ·rw[if_neg e2,if_neg e2]
theorem StOk.keys {m:List (Value × Value)} (h:StOk m):∀ p ∈ m,keyIs .str p.1=true:=fun p hp=>by
 obtain⟨k,n,h1,_⟩:=h p hp
 rw[h1]; rfl
theorem ba_inj {a b:B}:((⟨⟨a⟩⟩:ByteArray)=⟨⟨b⟩⟩)=(a=b):=by simp
def toldP (p:B):Option B:=match trimBl (cutRem p) with
 | []=>none
 | c :: r=>toldL (c :: r)
theorem zj4o:∀ (ps:List B) (n:Nat),allN (linesF ps n)=ps.filterMap toldP
 | [],n=>rfl
 | p :: ps,n=>by
  have ih:=zj4o ps (n+1)
  unfold allN at *
  rw[List.filterMap_cons]
  unfold linesF
  cases h:trimBl (cutRem p) with
  | nil =>
   have e:toldP p=none:=by unfold toldP; rw[h]
   rw[e]; exact ih
  | cons c r =>
   have e:toldP p=toldL (c :: r):=by unfold toldP; rw[h]
   rw[e,List.filterMap_cons,ih]
theorem trim_len (p:B):(trimBl (cutRem p)).length≤p.length:=by
 have h1:(cutRem p).length≤p.length:=by unfold cutRem; exact (List.takeWhile_sublist _).length_le
 have h2:(endBl (cutRem p)).length≤(cutRem p).length:=by
  unfold endBl; rw[List.length_reverse]
  have:=(List.dropWhile_sublist isBl (l:=(cutRem p).reverse)).length_le
  simpa using this
 have h3:(trimBl (cutRem p)).length≤(endBl (cutRem p)).length:=(List.dropWhile_sublist _).length_le
 omega
theorem zj67 (p:B):(cutRem p).length≤p.length:=by unfold cutRem; exact (List.takeWhile_sublist _).length_le
theorem zj1u:∀ (s acc p:B),p ∈ pieces acc s→p.length≤acc.length+s.length
 | [],acc,p,h=>by simp[pieces] at h; subst h; simp
 | c :: s,acc,p,h=>by
  unfold pieces at h
  split at h
  ·rcases List.mem_cons.1 h with rfl | h
   ·omega
   ·have:=zj1u s [] p h; simp at this ⊢; omega
  ·have:=zj1u s (acc++[c]) p h; simp at this ⊢; omega
def lkB:List (B × Nat)→B→Option Nat
 | [],_=>none
 | (a,k) :: r,nm=>if a=nm then some k else lkB r nm
theorem place_lk:∀ (lb:List (B × Nat)) (nm:B),place lb nm=(lkB lb nm).getD 0
 | [],_=>rfl
 | (a,k) :: r,nm=>by
  unfold place lkB
  split
  ·rfl
  ·exact place_lk r nm
theorem lkB_snoc:∀ (lb:List (B × Nat)) (a:B) (k:Nat) (nm:B),a ∉ lb.map (·.1)→lkB (lb++[(a,k)]) nm=if nm=a then some k else lkB lb nm
 | [],a,k,nm,_=>by
  show (if a=nm then some k else none)=_
  by_cases h:a=nm
  ·subst h; simp
  ·rw[if_neg h,if_neg (fun e=>h e.symm)]; rfl
 | (b,j) :: r,a,k,nm,h=>by
  have h1:a ≠ b:=fun e=>h (by simp[e])
  have h2:a ∉ r.map (·.1):=fun e=>h (by simp only[List.map_cons,List.mem_cons]; exact .inr e)
  show (if b=nm then some j else lkB (r++[(a,k)]) nm)=if nm=a then some k else (if b=nm then some j else lkB r nm)
  rw[lkB_snoc r a k nm h2]
  by_cases e:b=nm
  ·subst e
   rw[if_pos rfl,if_pos rfl,if_neg (fun e=>h1 e.symm)]
  ·rw[if_neg e,if_neg e]
def Places (m:List (Value × Value)) (lb:List (B × Nat)):Prop:=StOk m∧∀ nm:B,mget m (.string ⟨⟨nm⟩⟩)=(lkB lb nm).map fun k=>.int .i64 (k:Int)
theorem Places.nil:Places [] []:=⟨StOk.nil,fun nm=>by simp[mget,lkB]⟩
theorem Places.put {m:List (Value × Value)} {lb:List (B × Nat)} (h:Places m lb) {a:B} (k:Nat) (ha:a ∉ lb.map (·.1)):Places (mput m (.string ⟨⟨a⟩⟩) (.int .i64 (k:Int))) (lb++[(a,k)]) :=
 ⟨h.1.put _ _,fun nm=>by
  rw[sget_sput h.1,h.2 nm,lkB_snoc _ _ _ _ ha]
  by_cases e:nm=a
  ·subst e; simp
  ·have e':¬ (⟨⟨nm⟩⟩:ByteArray)=⟨⟨a⟩⟩:=fun h=>e (by rw[ba_inj] at h; exact h)
   rw[if_neg e',if_neg e]⟩
end Go.Asm
namespace Go.Asm
open Go
theorem zj37:∀ {s:B},lastBl s=none→∀ j (h:j < s.length),s[j] ≠ 32
 | [],_,j,h=>absurd h (Nat.not_lt_zero _)
 | c :: s,hn,j,h=>by
  unfold lastBl at hn
  split at hn
  ·cases hn
  ·rename_i h1
   split at hn
   ·cases hn
   ·rename_i h2
    cases j with
    | zero=>exact h2
    | succ j=>exact zj37 h1 j (by simpa using h)
theorem zj38:∀ {s:B} {k:Nat},lastBl s=some k→∃ h:k < s.length,s[k]=32∧∀ j (hj:j < s.length),k < j→s[j] ≠ 32
 | [],k,h=>by cases h
 | c :: s,k,h=>by
  unfold lastBl at h
  split at h
  ·rename_i m hm
   injection h with h; subst h
   obtain⟨h1,h2,h3⟩:=zj38 hm
   refine⟨by simp; omega,by simpa using h2,fun j hj hk=>?_⟩
   cases j with
   | zero=>omega
   | succ j=>exact h3 j (by simpa using hj) (by omega)
  ·rename_i hn
   split at h
   ·rename_i hc
    injection h with h; subst h
    refine⟨by simp,by simpa using hc,fun j hj hk=>?_⟩
    cases j with
    | zero=>omega
    | succ j=>exact zj37 hn j (by simpa using hj)
   ·cases h
theorem get_ba (s:B) {j:Nat} (h:j < s.length):(⟨⟨s⟩⟩:ByteArray).data[j]! = s[j]:=by
 show (⟨s⟩:Array UInt8)[j]! = s[j]
 rw[getElem!_pos (⟨s⟩:Array UInt8) j h]
 rfl
theorem last_lib (s:B):Lib.lastIndexByte ⟨⟨s⟩⟩ 32=(match lastBl s with | some k=>(k:Int) | none => -1):=by
 unfold Lib.lastIndexByte
 have hsz:(⟨⟨s⟩⟩:ByteArray).size=s.length:=rfl
 have hsp:=Lib.lastIdx_spec ⟨⟨s⟩⟩ 32 (⟨⟨s⟩⟩:ByteArray).size
 rw[hsz] at hsp ⊢
 have cast:∀ (d:UInt8),(d.toNat:Int)=32 ↔ d=32:=fun d=>by
  have e:(32:UInt8).toNat=32:=rfl
  rw[← UInt8.toNat_inj,e]; constructor <;> intro h <;> omega
 cases hl:lastBl s with
 | none =>
  rcases hsp with⟨h,_⟩ | ⟨i,h1,_,h3,_⟩
  ·exact h
  ·rw[get_ba s h1,cast] at h3
   exact absurd h3 (zj37 hl i h1)
 | some k =>
  obtain⟨h1,h2,h3⟩:=zj38 hl
  rcases hsp with⟨_,h⟩ | ⟨i,g1,g2,g3,g4⟩
  ·exact absurd ((cast _).2 (by rw[get_ba s h1]; exact h2)) (h k h1)
  ·rw[g2]
   rw[get_ba s g1,cast] at g3
   rcases Nat.lt_trichotomy i k with h | h | h
   ·exact absurd ((cast _).2 (by rw[get_ba s h1]; exact h2)) (g4 k h h1)
   ·rw[h]
   ·exact absurd g3 (h3 i g1 h)
theorem zj7f (s:B) (k:Nat):(⟨⟨s⟩⟩:ByteArray).extract k (⟨⟨s⟩⟩:ByteArray).size=⟨⟨s.drop k⟩⟩:=by
 apply Go.Nl.ba_eq
 rw[Lib.extract_to_end]
theorem ext_take (s:B) (k:Nat):(⟨⟨s⟩⟩:ByteArray).extract 0 k=⟨⟨s.take k⟩⟩:=by
 apply Go.Nl.ba_eq
 rw[Lib.extract_data]
 simp
open Go.Isa
structure LbOk (l:List Ln) (lb:List (B × Nat)):Prop where
 le:∀ p ∈ lb,p.2≤l.length
 up:lb.Pairwise fun a b=>a.2≤b.2
 nd:(lb.map (·.1)).Nodup
theorem LbOk.nil:LbOk [] []:=⟨by simp,List.Pairwise.nil,List.nodup_nil⟩
theorem zj7g:∀ (ls:List (Nat × B)) (l:List Ln) (lb:List (B × Nat)),LbOk l lb→l.length≤1024→LbOk (readL ls l lb).1 (readL ls l lb).2.1∧(readL ls l lb).1.length≤1024
 | [],l,lb,h,hl=>⟨h,hl⟩
 | (n,s) :: r,l,lb,h,hl=>by
  unfold readL
  split
  ·rename_i nm _
   split
   ·exact⟨h,hl⟩
   ·rename_i hn
    refine zj7g r l _ ⟨?_,?_,?_⟩ hl
    ·intro p hp
     rcases List.mem_append.1 hp with hp | hp
     ·exact h.le p hp
     ·rw[List.mem_singleton.1 hp]; exact Nat.le_refl _
    ·refine List.pairwise_append.2 ⟨h.up,List.pairwise_singleton _ _,fun a ha b hb=>?_⟩
     rw[List.mem_singleton.1 hb]; exact h.le a ha
    ·rw[List.map_append]
     refine List.nodup_append.2 ⟨h.nd,by simp,fun a ha b hb=>?_⟩
     rw[List.map_cons,List.map_nil,List.mem_singleton] at hb
     subst hb
     intro e; subst e; exact hn ha
  ·split
   ·exact⟨h,hl⟩
   ·split
    ·exact⟨h,hl⟩
    ·rename_i hn
     refine zj7g r _ lb ⟨fun p hp=>?_,h.up,h.nd⟩ (by simp; omega)
     have:=h.le p hp
     simp; omega
end Go.Asm
namespace Go.Dk
open Go Go.ChangeShapes Go.WideShapes Go.ChangeAt Go.RowKit Go.Deep Go.Sx Go.Isa
theorem wfU {n:Int} (h:(Lit.int .u64 n).wf=true):isU n:=by
 simp[Lit.wf,IntKind.min,IntKind.max,IntKind.signed,IntKind.bits] at h
 unfold isU; omega
end Go.Dk
