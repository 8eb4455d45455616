/- Plain words of isa: instructions, their bytes. -/
import Derived.Test.YtaiajnehnjnadaaDoorSxLib
import Derived.Lib.Bytealg
import Derived.Lib.ItoaLen
import Derived.Lib.AtoiAll
import Derived.Lib.Split
import Derived.Lib.Strings
import Derived.Lib.ItoaNum
import Derived.Lib.AtoiAllCases
import Derived.Lib.CountLaws
import Derived.Lib.SlTrimSet
import Derived.Lib.IndexMore
import Derived.Lib.LastIndexByte
set_option linter.unusedSimpArgs false
set_option linter.unusedVariables false
set_option linter.unnecessarySimpa false
namespace Go.Isa
open Go Go.Sx
structure In where
 op:Int
 a:Int
 b:Int
 c:Int
 imm:Int
deriving DecidableEq
def In.cells (x:In):List Value:=[.int .i64 x.op,.int .i64 x.a,.int .i64 x.b,.int .i64 x.c,.int .i64 x.imm]
def cellsI (l:List In):List Value:=l.flatMap In.cells
theorem zj0w (l:List In):(cellsI l).length=l.length*5:=flat_len (f:=In.cells) (sz:=5) (fun _=>rfl) l
theorem zj1z (l:List In) {i k:Nat} (hi:i < l.length) (hk:k < 5):(cellsI l)[i*5+k]? = (l[i]).cells[k]? := flat_get (f:=In.cells) (sz:=5) (fun _=>rfl) l hi hk
structure RI where
 i:Nat
 A:Option Addr
 c:Nat
def isB (n:Int):Prop:=0≤n∧n≤255
instance (n:Int):Decidable (isB n):=by unfold isB; infer_instance
def low (m:Int):Int:=if m < 0 then m+4294967296 else m
def okIn (x:In):Prop:=(isB x.op∧isB x.a∧isB x.b∧isB x.c) ∧ -2147483648≤x.imm∧x.imm≤2147483647
instance (x:In):Decidable (okIn x):=by unfold okIn; infer_instance
def okL (l:List In):Prop:=l.length≤1024∧∀ x ∈ l,okIn x
theorem take_succ {α:Type} (l:List α) {i:Nat} (h:i < l.length):l.take (i+1)=l.take i++[l[i]]:=by
 rw[List.take_add_one,List.getElem?_eq_getElem h]; rfl
def bytesOf (l:List Int):ByteArray:=⟨(l.map fun n=>UInt8.ofNat n.toNat).toArray⟩
def signed (m:Int):Int:=if m≥2147483648 then m - 4294967296 else m
def nmL (op:Int):List UInt8 :=
 if op=2 then [65,73] else if op=3 then [65,66] else if 4≤op∧op≤10 then [65,66,67] else if op=11∨op=12∨op=14∨op=15∨op=16 then [65,66,73] else if op=13 then [73] else []
def isOp (op:Int):Bool:=decide (1≤op) && decide (op≤18)
def hasL (op:Int) (c:Int):Bool:=decide (0≤Lib.indexByte (nmL op) c.toNat.toUInt8)
def isReg (n:Int):Bool:=decide (0≤n) && decide (n < 8)
def legalB (x:In):Bool:=isOp x.op && (!hasL x.op 65 || isReg x.a) && (!hasL x.op 66 || isReg x.b) && (!hasL x.op 67 || isReg x.c)
theorem zj12 {op:Int} (h:isOp op=true):op=1∨op=2∨op=3∨op=4∨op=5∨op=6∨op=7∨op=8∨op=9∨op=10∨op=11∨op=12∨op=13∨op=14∨op=15∨op=16∨op=17∨op=18:=by
 simp only[isOp,Bool.and_eq_true,decide_eq_true_eq] at h; omega
theorem nmL_out {op:Int} (h:isOp op=false):nmL op=[]:=by
 have:¬ (1≤op∧op≤18):=by intro k; simp[isOp,k.1,k.2] at h
 unfold nmL
 rw[if_neg (by omega),if_neg (by omega),if_neg (by omega),if_neg (by omega),if_neg (by omega)]
structure Ef where
 kind:Int
 next:Int
 reg:Int
 value:Int
 addr:Int
deriving DecidableEq
def Ef.cells (e:Ef):List Value:=[.int .i64 e.kind,.int .i64 e.next,.int .i64 e.reg,.int .u64 e.value,.int .u64 e.addr]
def Ef.val (e:Ef):Value:=.agg e.cells.toArray
def Ef.zero:Ef:=⟨0,0,0,0,0⟩
def is64 (n:Int):Prop := -9223372036854775808≤n∧n≤9223372036854775807
end Go.Isa
namespace Go.Isa
open Go
def fo (c:Int):Nat:=if c=65 then 1 else if c=66 then 2 else if c=67 then 3 else if c=73 then 4 else 0
def fld (x:In) (c:Int):Int:=if c=65 then x.a else if c=66 then x.b else if c=67 then x.c else if c=73 then x.imm else x.op
def ok1 (x:In) (c:Int):Bool:=hasL x.op c || fld x c == 0
def plainB (x:In):Bool:=legalB x && (ok1 x 65 && ok1 x 66 && ok1 x 67 && ok1 x 73)
def wds:List (List UInt8):=[[],[104,97,108,116],[115,101,116],[109,111,118],[97,100,100],[115,117,98],[109,117,108],[97,110,100],[120,111,114],[115,104,108],[115,104,114],[108,111,97,100],[115,116,111,114,101],[106,117,109,112],[101,113],[110,101],[108,116],[98,101,103,105,110],[101,110,100]]
def wdL (op:Int):List UInt8:=wds.getD op.toNat []
def rawW:List UInt8:=[114,97,119]
def rawN:List UInt8:=[79,65,66,67,73]
def argL (x:In) (nm:List UInt8):List UInt8:=nm.flatMap fun c=>32 :: Lib.itoa (fld x c.toNat)
def textL (x:In):List UInt8:=if plainB x then wdL x.op++argL x (nmL x.op) else rawW++argL x rawN
def in64 (x:In):Prop:=is64 x.op∧is64 x.a∧is64 x.b∧is64 x.c∧is64 x.imm
def zeroI:In:=⟨0,0,0,0,0⟩
end Go.Isa
namespace Go.Asm
open Go Go.Isa
abbrev B:=List UInt8
def lastBl:B→Option Nat
 | []=>none
 | c :: s=>match lastBl s with
  | some k=>some (k+1)
  | none=>if c=32 then some 0 else none
def goOp (op:Int):Bool:=decide (13≤op) && decide (op≤16)
structure Ln where
 n:Nat
 x:In
 name:B
def place (lb:List (B × Nat)) (nm:B):Nat:=match lb with
 | []=>0
 | (a,k) :: r=>if a=nm then k else place r nm
end Go.Asm
namespace Go.Nl
open Go Go.Lib
def sp:ByteArray:=⟨⟨[10]⟩⟩
theorem ba_eq {a b:ByteArray} (h:a.data.toList=b.data.toList):a=b:=by
 cases a; cases b; congr 1; exact Array.toList_inj.1 h
end Go.Nl
namespace Go.Asm
open Go Go.Lib
end Go.Asm
namespace Go.Asm
open Go Go.Sx
def StOk (m:List (Value × Value)):Prop:=∀ p ∈ m,∃ (k:ByteArray) (n:Int),p.1=.string k∧p.2=.int .i64 n
theorem zj16 (q v:Value) (l:List (Value × Value)) (w:Value):mget ((q,v) :: l) w=if keyB w q=true then some v else mget l w:=by
 cases h:keyB w q <;> simp[mget,h]
theorem sput_cons (q v:Value) (l:List (Value × Value)) (w u:Value):mput ((q,v) :: l) w u=if keyB w q=true then (w,u) :: l else (q,v) :: mput l w u:=by
 cases h:keyB w q <;> simp[mput,h]
theorem zj20 (a b:ByteArray):(keyB (.string a) (.string b)=true)=(a=b):=by
 cases a with
 | mk da =>
  cases b with
  | mk db =>
   show ((da == db)=true)=_
   rw[beq_iff_eq,ByteArray.mk.injEq]
theorem StOk.nil:StOk []:=fun p hp=>by simp at hp
theorem StOk.put {m:List (Value × Value)} (h:StOk m) (k:ByteArray) (n:Int):StOk (mput m (.string k) (.int .i64 n)):=by
 induction m with
 | nil=>intro p hp; simp[mput] at hp; subst hp; exact⟨k,n,rfl,rfl⟩
 | cons q m ih =>
  obtain⟨q,u⟩:=q
  intro p hp
  rw[sput_cons] at hp
  split at hp
  ·rcases List.mem_cons.1 hp with rfl | hp
   ·exact⟨k,n,rfl,rfl⟩
   ·exact h p (by simp[hp])
  ·rcases List.mem_cons.1 hp with rfl | hp
   ·exact h _ (by simp)
   ·exact ih (fun p hp=>h p (by simp[hp])) p hp
theorem sget_sput {m:List (Value × Value)} (h:StOk m) (k j:ByteArray) (n:Int):mget (mput m (.string k) (.int .i64 n)) (.string j)=if j=k then some (.int .i64 n) else mget m (.string j):=by
 induction m with
 | nil=>simp only[mput,zj16,zj20]
 | cons q m ih =>
  obtain⟨q,u⟩:=q
  obtain⟨b,z,h1,h2⟩:=h (q,u) (by simp)
  simp only at h1 h2
  subst h1; subst h2
  have ih:=ih fun p hp=>h p (by simp[hp])
  rw[sput_cons]
  simp only[zj20]
  by_cases e:k=b
  ·subst e
   rw[if_pos rfl,zj16]
   simp only[zj20]
   by_cases e2:j=k
   ·rw[if_pos e2,if_pos e2]
   ·rw[if_neg e2,if_neg e2,zj16]; simp only[zj20]; rw[if_neg e2]
  ·rw[if_neg e,zj16,zj16,ih]
   simp only[zj20]
   by_cases e2:j=b
   ·rw[if_pos e2,if_pos e2,if_neg (fun h=>e (h.symm.trans e2))]
   ·rw[if_neg e2,if_neg e2]
theorem StOk.val {m:List (Value × Value)} (h:StOk m):∀ {k:ByteArray} {v:Value},mget m (.string k)=some v→∃ n,v=.int .i64 n:=by
 induction m with
 | nil=>intro k v hv; simp[mget] at hv
 | cons q m ih =>
  obtain⟨q,u⟩:=q
  intro k v hv
  rw[zj16] at hv
  obtain⟨b,z,h1,h2⟩:=h (q,u) (by simp)
  simp only at h1 h2
  split at hv
  ·injection hv with hv; exact⟨z,by rw[← hv,h2]⟩
  ·exact ih (fun p hp=>h p (by simp[hp])) hv
theorem ba_inj {a b:B}:((⟨⟨a⟩⟩:ByteArray)=⟨⟨b⟩⟩)=(a=b):=by simp
def lkB:List (B × Nat)→B→Option Nat
 | [],_=>none
 | (a,k) :: r,nm=>if a=nm then some k else lkB r nm
theorem lkB_snoc:∀ (lb:List (B × Nat)) (a:B) (k:Nat) (nm:B),a ∉ lb.map (·.1)→lkB (lb++[(a,k)]) nm=if nm=a then some k else lkB lb nm
 | [],a,k,nm,_=>by
  show (if a=nm then some k else none)=_
  by_cases h:a=nm
  ·subst h; simp
  ·rw[if_neg h,if_neg (fun e=>h e.symm)]; rfl
 | (b,j) :: r,a,k,nm,h=>by
  have h1:a ≠ b:=fun e=>h (by simp[e])
  have h2:a ∉ r.map (·.1):=fun e=>h (by simp only[List.map_cons,List.mem_cons]; exact .inr e)
  show (if b=nm then some j else lkB (r++[(a,k)]) nm)=if nm=a then some k else (if b=nm then some j else lkB r nm)
  rw[lkB_snoc r a k nm h2]
  by_cases e:b=nm
  ·subst e
   rw[if_pos rfl,if_pos rfl,if_neg (fun e=>h1 e.symm)]
  ·rw[if_neg e,if_neg e]
def Places (m:List (Value × Value)) (lb:List (B × Nat)):Prop:=StOk m∧∀ nm:B,mget m (.string ⟨⟨nm⟩⟩)=(lkB lb nm).map fun k=>.int .i64 (k:Int)
theorem Places.nil:Places [] []:=⟨StOk.nil,fun nm=>by simp[mget,lkB]⟩
theorem Places.put {m:List (Value × Value)} {lb:List (B × Nat)} (h:Places m lb) {a:B} (k:Nat) (ha:a ∉ lb.map (·.1)):Places (mput m (.string ⟨⟨a⟩⟩) (.int .i64 (k:Int))) (lb++[(a,k)]) :=
 ⟨h.1.put _ _,fun nm=>by
  rw[sget_sput h.1,h.2 nm,lkB_snoc _ _ _ _ ha]
  by_cases e:nm=a
  ·subst e; simp
  ·have e':¬ (⟨⟨nm⟩⟩:ByteArray)=⟨⟨a⟩⟩:=fun h=>e (by rw[ba_inj] at h; exact h)
   rw[if_neg e',if_neg e]⟩
end Go.Asm
namespace Go.Asm
open Go
theorem zj17:∀ {s:B},lastBl s=none→∀ j (h:j < s.length),s[j] ≠ 32
 | [],_,j,h=>absurd h (Nat.not_lt_zero _)
 | c :: s,hn,j,h=>by
  unfold lastBl at hn
  split at hn
  ·cases hn
  ·rename_i h1
   split at hn
   ·cases hn
   ·rename_i h2
    cases j with
    | zero=>exact h2
    | succ j=>exact zj17 h1 j (by simpa using h)
theorem zj18:∀ {s:B} {k:Nat},lastBl s=some k→∃ h:k < s.length,s[k]=32∧∀ j (hj:j < s.length),k < j→s[j] ≠ 32
 | [],k,h=>by cases h
 | c :: s,k,h=>by
  unfold lastBl at h
  split at h
  ·rename_i m hm
   injection h with h; subst h
   obtain⟨h1,h2,h3⟩:=zj18 hm
   refine⟨by simp; omega,by simpa using h2,fun j hj hk=>?_⟩
   cases j with
   | zero=>omega
   | succ j=>exact h3 j (by simpa using hj) (by omega)
  ·rename_i hn
   split at h
   ·rename_i hc
    injection h with h; subst h
    refine⟨by simp,by simpa using hc,fun j hj hk=>?_⟩
    cases j with
    | zero=>omega
    | succ j=>exact zj17 hn j (by simpa using hj)
   ·cases h
theorem get_ba (s:B) {j:Nat} (h:j < s.length):(⟨⟨s⟩⟩:ByteArray).data[j]! = s[j]:=by
 show (⟨s⟩:Array UInt8)[j]! = s[j]
 rw[getElem!_pos (⟨s⟩:Array UInt8) j h]
 rfl
theorem last_lib (s:B):Lib.lastIndexByte ⟨⟨s⟩⟩ 32=(match lastBl s with | some k=>(k:Int) | none => -1):=by
 unfold Lib.lastIndexByte
 have hsz:(⟨⟨s⟩⟩:ByteArray).size=s.length:=rfl
 have hsp:=Lib.lastIdx_spec ⟨⟨s⟩⟩ 32 (⟨⟨s⟩⟩:ByteArray).size
 rw[hsz] at hsp ⊢
 have cast:∀ (d:UInt8),(d.toNat:Int)=32 ↔ d=32:=fun d=>by
  have e:(32:UInt8).toNat=32:=rfl
  rw[← UInt8.toNat_inj,e]; constructor <;> intro h <;> omega
 cases hl:lastBl s with
 | none =>
  rcases hsp with⟨h,_⟩ | ⟨i,h1,_,h3,_⟩
  ·exact h
  ·rw[get_ba s h1,cast] at h3
   exact absurd h3 (zj17 hl i h1)
 | some k =>
  obtain⟨h1,h2,h3⟩:=zj18 hl
  rcases hsp with⟨_,h⟩ | ⟨i,g1,g2,g3,g4⟩
  ·exact absurd ((cast _).2 (by rw[get_ba s h1]; exact h2)) (h k h1)
  ·rw[g2]
   rw[get_ba s g1,cast] at g3
   rcases Nat.lt_trichotomy i k with h | h | h
   ·exact absurd ((cast _).2 (by rw[get_ba s h1]; exact h2)) (g4 k h h1)
   ·rw[h]
   ·exact absurd g3 (h3 i g1 h)
theorem zj3x (s:B) (k:Nat):(⟨⟨s⟩⟩:ByteArray).extract 0 k=⟨⟨s.take k⟩⟩:=by
 apply Go.Nl.ba_eq
 rw[Lib.extract_data]
 simp
open Go.Isa
structure LbOk (l:List Ln) (lb:List (B × Nat)):Prop where
 le:∀ p ∈ lb,p.2≤l.length
 up:lb.Pairwise fun a b=>a.2≤b.2
 nd:(lb.map (·.1)).Nodup
theorem LbOk.nil:LbOk [] []:=⟨by simp,List.Pairwise.nil,List.nodup_nil⟩
end Go.Asm
namespace Go.Dig
open Go
def dd (u:Nat):List UInt8:=if u=0 then [] else Lib.decDigits u
structure At (n rest:Int) (s:List UInt8) (k:Nat):Prop where
 said:Lib.decDigits n.natAbs=(if k=0 then Lib.decDigits rest.natAbs else dd rest.natAbs)++s
 lt:rest.natAbs < 10 ^ (20 - k)
 len:s.length=k
 k20:k≤20
 fits:rest.natAbs≤9223372036854775808
 sign:rest=0∨(rest < 0 ↔ n < 0)
def last (rest:Int):Int:=if rest.tmod 10 < 0 then - rest.tmod 10 else rest.tmod 10
theorem last_eq (rest:Int):last rest=((rest.natAbs % 10:Nat):Int):=by
 unfold last
 have h:=Int.natAbs_tmod rest 10
 have h10:(10:Int).natAbs=10:=rfl
 rw[h10] at h
 split <;> omega
theorem zj0m (rest:Int):(rest.tdiv 10).natAbs=rest.natAbs / 10:=Int.natAbs_tdiv rest 10
theorem dec_last (u:Nat):Lib.decDigits u=dd (u / 10)++[UInt8.ofNat (48+u % 10)]:=by
 rw[Lib.decDigits]
 split
 ·rename_i h
  have e:u / 10=0:=by omega
  rw[e,dd,if_pos rfl,Nat.mod_eq_of_lt h]; rfl
 ·rename_i h
  rw[dd,if_neg (by omega)]
theorem start {n:Int} (h0 : -9223372036854775808≤n) (h1:n≤9223372036854775807):At n n [] 0 :=
 ⟨by simp,by rw[show 10 ^ (20 - 0)=100000000000000000000 by decide]; omega,rfl,by omega,by omega,.inr Iff.rfl⟩
theorem step {n rest:Int} {s:List UInt8} {k:Nat} (h:At n rest s k) (hk:k < 20) (hg:k=0∨rest ≠ 0) :
  At n (rest.tdiv 10) (UInt8.ofNat (48+rest.natAbs % 10) :: s) (k+1):=by
 refine⟨?_,?_,by simp[h.len],by omega,?_,?_⟩
 ·rw[if_neg (by omega),zj0m,h.said]
  have e:(if k=0 then Lib.decDigits rest.natAbs else dd rest.natAbs)=Lib.decDigits rest.natAbs:=by
   split
   ·rfl
   ·rw[dd,if_neg (by omega)]
  rw[e,dec_last,List.append_assoc]; rfl
 ·rw[zj0m]
  have:=h.lt
  rw[show 20 - k=20 - (k+1)+1 by omega,Nat.pow_succ] at this
  omega
 ·rw[zj0m]; have:=h.fits; omega
 ·have e:=zj0m rest
  by_cases hz:rest.tdiv 10=0
  ·exact .inl hz
  ·right
   rcases h.sign with hs | hs
   ·subst hs; simp at hz
   ·rw[← hs]
    constructor
    ·intro hlt
     by_cases hr:rest < 0
     ·exact hr
     ·have:=Int.tdiv_nonneg (a:=rest) (b:=10) (by omega) (by decide); omega
    ·intro hlt
     have:rest.tdiv 10≤0:=by
      have hs:Int.sign 10=1:=rfl
      rw[Int.tdiv_eq_ediv,hs]; split <;> omega
     omega
theorem stop {n rest:Int} {s:List UInt8} {k:Nat} (h:At n rest s k) (hg:¬ (k < 20∧(k=0∨rest ≠ 0))):Lib.decDigits n.natAbs=s:=by
 have hr:rest=0:=by
  by_cases hk:k < 20
  ·by_cases hz:rest=0
   ·exact hz
   ·exact absurd ⟨hk,.inr hz⟩ hg
  ·have hl:=h.lt
   have e:k=20:=by have:=h.k20; omega
   subst e
   simp at hl
   exact hl
 have hk:k ≠ 0:=fun hk=>hg ⟨by omega,.inl hk⟩
 rw[h.said,if_neg hk,hr,dd,if_pos (by simp)]; rfl
theorem itoa_eq (n:Int):Lib.itoa n=if n < 0 then 45 :: Lib.decDigits n.natAbs else Lib.decDigits n.natAbs:=by
 unfold Lib.itoa
 split
 ·rfl
 ·rw[show n.toNat=n.natAbs by omega]
end Go.Dig
namespace Go.Asm
open Go Go.Sx Go.Isa
def tgtB (x:In) (n:Nat):Bool:=goOp x.op && (legalB x && (decide (0≤x.imm) && (decide (x.imm≤n) && !Lib.hasPrefix (textL x) rawW)))
def mkB (l:List In) (m:List In) (i:Int):Bool:=m.any fun x=>tgtB x l.length && x.imm == i
def labL (l:List In) (i:Nat):B:=if mkB l l i then (108 :: Lib.itoa i)++[58,10] else []
def upTo (s:B):B:=match lastBl s with | some k=>s.take (k+1) | none=>[]
def linL (n:Nat) (x:In):B:=(if tgtB x n=true then upTo (textL x)++(108 :: Lib.itoa x.imm) else textL x)++[10]
def prL (l:List In):Nat→B
 | 0=>[]
 | i+1=>(prL l i++labL l i)++(match l[i]? with | some x=>linL l.length x | none=>[])
def printL (l:List In):B:=prL l l.length++labL l l.length
theorem zj3y (l:List In) (i:Nat) (hi:i≤2000):(labL l i).length≤24:=by
 unfold labL
 split
 ·have:=Lib.itoa_length_le (i:Int) (by omega) (by omega)
  simp; omega
 ·simp
theorem zj21 {x:In} (h:in64 x):(textL x).length≤120:=by
 have hf:∀ c:Int,is64 (fld x c):=fun c=>by
  obtain⟨h0,h1,h2,h3,h4⟩:=h
  unfold fld; repeat' split
  all_goals assumption
 have ha:∀ nm:List UInt8,(argL x nm).length≤22*nm.length:=fun nm=>by
  induction nm with
  | nil=>simp[argL]
  | cons c nm ih =>
   have h1:=hf c.toNat
   have:=Lib.itoa_length_le _ h1.1 h1.2
   simp only[argL,List.flatMap_cons,List.length_append,List.length_cons] at ih ⊢
   omega
 have hw:(wdL x.op).length≤5:=by
  unfold wdL
  rw[List.getD_eq_getElem?_getD]
  have:∀ l ∈ wds,l.length≤5:=by decide
  cases e:wds[x.op.toNat]? with
  | none=>simp
  | some v=>exact this v (List.mem_of_getElem? e)
 have hn:(nmL x.op).length≤3:=by
  unfold nmL
  repeat' split
  all_goals decide
 unfold textL
 split
 ·have:=ha (nmL x.op)
  rw[List.length_append]; omega
 ·have:=ha rawN
  rw[List.length_append]
  have e1:rawW.length=3:=rfl
  have e2:rawN.length=5:=rfl
  omega
theorem upTo_len (s:B):(upTo s).length≤s.length:=by
 unfold upTo
 split
 ·rw[List.length_take]; omega
 ·simp
theorem linL_len {x:In} (n:Nat) (h:in64 x):(linL n x).length≤150:=by
 have h1:=zj21 h
 have h2:=upTo_len (textL x)
 have h3:=Lib.itoa_length_le x.imm h.2.2.2.2.1 h.2.2.2.2.2
 unfold linL
 split <;> simp <;> omega
theorem prL_len {l:List In} (h:∀ x ∈ l,in64 x):∀ i,i≤2000→(prL l i).length≤200*i
 | 0,_=>by simp[prL]
 | i+1,hi=>by
  have ih:=prL_len h i (by omega)
  have h1:=zj3y l i (by omega)
  unfold prL
  rw[List.length_append,List.length_append]
  cases hx:l[i]? with
  | none=>simp only[List.length_nil]; omega
  | some x =>
   have:=linL_len l.length (h x (List.mem_of_getElem? hx))
   simp only; omega
theorem zj3z {l:List In} {i:Nat} {x:In} (h:l[i]? = some x):prL l (i+1)=(prL l i++labL l i)++linL l.length x:=by
 conv=>lhs; unfold prL
 rw[h]
theorem go_cases {op:Int} (h:goOp op=true):op=13∨op=14∨op=15∨op=16:=by
 unfold goOp at h; simp only[Bool.and_eq_true,decide_eq_true_eq] at h; omega
theorem tgt_head {x:In} (hg:goOp x.op=true):∃ c t,textL x=c :: t∧Lib.hasPrefix (textL x) rawW=(c == 114):=by
 unfold textL
 cases hp:plainB x with
 | false=>exact⟨114,[97,119]++argL x rawN,rfl,by rw[if_neg (by simp)]; simp[Lib.hasPrefix,rawW,List.isPrefixOf]⟩
 | true =>
  rw[if_pos rfl]
  rcases go_cases hg with h | h | h | h <;> rw[h]
  ·exact⟨106,[117,109,112]++argL x (nmL 13),rfl,by simp[Lib.hasPrefix,rawW,wdL,wds,List.isPrefixOf]⟩
  ·exact⟨101,[113]++argL x (nmL 14),rfl,by simp[Lib.hasPrefix,rawW,wdL,wds,List.isPrefixOf]⟩
  ·exact⟨110,[101]++argL x (nmL 15),rfl,by simp[Lib.hasPrefix,rawW,wdL,wds,List.isPrefixOf]⟩
  ·exact⟨108,[116]++argL x (nmL 16),rfl,by simp[Lib.hasPrefix,rawW,wdL,wds,List.isPrefixOf]⟩
theorem tgt_last {x:In} {n:Nat} (h:tgtB x n=true):∃ k,lastBl (textL x)=some k:=by
 unfold tgtB at h
 simp only[Bool.and_eq_true,Bool.not_eq_true'] at h
 obtain⟨hg,_,_,_,hr⟩:=h
 have hp:plainB x=true:=by
  cases hp:plainB x with
  | true=>rfl
  | false =>
   unfold textL at hr
   rw[hp,if_neg (by simp)] at hr
   simp[Lib.hasPrefix,rawW,List.isPrefixOf] at hr
 have hm:(32:UInt8) ∈ textL x:=by
  unfold textL
  rw[hp,if_pos rfl]
  refine List.mem_append_right _ ?_
  rcases go_cases hg with h | h | h | h <;> rw[h] <;> simp[nmL,argL]
 cases hk:lastBl (textL x) with
 | some k=>exact⟨k,rfl⟩
 | none =>
  obtain⟨j,hj,he⟩:=List.mem_iff_getElem.1 hm
  exact absurd he (zj17 hk j hj)
def NvOk (m:List (Value × Value)):Prop:=∀ p ∈ m,∃ k:Int,p.1=.int .i64 k∧p.2=.int .i64 1
theorem zj1p (q v:Value) (l:List (Value × Value)) (w:Value):mget ((q,v) :: l) w=if keyB w q=true then some v else mget l w:=by
 cases h:keyB w q <;> simp[mget,h]
theorem mput_cons (q v:Value) (l:List (Value × Value)) (w u:Value):mput ((q,v) :: l) w u=if keyB w q=true then (w,u) :: l else (q,v) :: mput l w u:=by
 cases h:keyB w q <;> simp[mput,h]
theorem zj2v (a b:Int):(keyB (.int .i64 a) (.int .i64 b)=true)=(a=b):=by simp[keyB]
theorem mput_ok {m:List (Value × Value)} (h:NvOk m) (k:Int):NvOk (mput m (.int .i64 k) (.int .i64 1)):=by
 induction m with
 | nil=>intro p hp; simp[mput] at hp; subst hp; exact⟨k,rfl,rfl⟩
 | cons q m ih =>
  obtain⟨q,u⟩:=q
  intro p hp
  rw[mput_cons] at hp
  split at hp
  ·rcases List.mem_cons.1 hp with rfl | hp
   ·exact⟨k,rfl,rfl⟩
   ·exact h p (by simp[hp])
  ·rcases List.mem_cons.1 hp with rfl | hp
   ·exact h _ (by simp)
   ·exact ih (fun p hp=>h p (by simp[hp])) p hp
theorem mget_mput {m:List (Value × Value)} (h:NvOk m) (k j:Int):mget (mput m (.int .i64 k) (.int .i64 1)) (.int .i64 j)=if j=k then some (.int .i64 1) else mget m (.int .i64 j):=by
 induction m with
 | nil =>
  simp only[mput,zj1p,zj2v]
 | cons q m ih =>
  obtain⟨q,u⟩:=q
  obtain⟨n,h1,h2⟩:=h (q,u) (by simp)
  simp only at h1 h2
  subst h1; subst h2
  have ih:=ih fun p hp=>h p (by simp[hp])
  rw[mput_cons]
  simp only[zj2v]
  by_cases e:k=n
  ·subst e
   rw[if_pos rfl,zj1p]
   simp only[zj2v]
   by_cases e2:j=k
   ·rw[if_pos e2,if_pos e2]
   ·rw[if_neg e2,if_neg e2]
  ·rw[if_neg e,zj1p,zj1p,ih]
   simp only[zj2v]
   by_cases e2:j=n
   ·rw[if_pos e2,if_pos e2,if_neg (fun h=>e (h.symm.trans e2))]
   ·rw[if_neg e2,if_neg e2]
theorem nv_keys {m:List (Value × Value)} (h:NvOk m):∀ p ∈ m,keyIs (.int .i64) p.1=true:=fun p hp=>by
 obtain⟨k,h1,_⟩:=h p hp
 rw[h1]; rfl
def mkS (n:Nat) (m:List (Value × Value)) (x:In):List (Value × Value):=if tgtB x n=true then mput m (.int .i64 x.imm) (.int .i64 1) else m
def mkM (n:Nat) (l:List In):List (Value × Value):=l.foldl (mkS n) []
theorem mkM_snoc (n:Nat) (l:List In) (x:In):mkM n (l++[x])=mkS n (mkM n l) x:=by simp[mkM]
theorem mkM_ok (n:Nat) (l:List In):NvOk (mkM n l)∧∀ j:Int,mget (mkM n l) (.int .i64 j)=if (l.any fun x=>tgtB x n && x.imm == j) then some (.int .i64 1) else none:=by
 have key:∀ (l acc:List In) (m:List (Value × Value)),(NvOk m∧∀ j:Int,mget m (.int .i64 j)=if (acc.any fun x=>tgtB x n && x.imm == j) then some (.int .i64 1) else none)→NvOk (l.foldl (mkS n) m)∧∀ j:Int,mget (l.foldl (mkS n) m) (.int .i64 j)=if ((acc++l).any fun x=>tgtB x n && x.imm == j) then some (.int .i64 1) else none:=by
  intro l
  induction l with
  | nil=>intro acc m h; simpa using h
  | cons f l ih =>
   intro acc m ⟨h1,h2⟩
   have:=ih (acc++[f]) (mkS n m f) ?_
   ·simpa using this
   ·unfold mkS
    by_cases e:tgtB f n=true
    ·rw[if_pos e]
     refine⟨mput_ok h1 _,fun j=>?_⟩
     rw[mget_mput h1,h2,List.any_append]
     by_cases e2:j=f.imm
     ·subst e2; simp[e]
     ·have:(f.imm == j)=false:=by simp; exact fun h=>e2 h.symm
      simp[e2,this]
    ·rw[if_neg e]
     refine⟨h1,fun j=>?_⟩
     rw[h2,List.any_append]
     have e:tgtB f n=false:=by simpa using e
     simp[e]
 have:=key l [] [] ⟨fun p hp=>by simp at hp,fun j=>by simp[mget]⟩
 simpa [mkM] using this
end Go.Asm
