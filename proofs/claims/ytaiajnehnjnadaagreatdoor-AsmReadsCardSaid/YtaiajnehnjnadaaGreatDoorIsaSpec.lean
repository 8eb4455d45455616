/- Plain words of isa: instructions, their bytes. -/
import Derived.Test.YtaiajnehnjnadaaGreatDoorSxLib
import Derived.Lib.Bytealg
import Derived.Lib.ItoaLen
import Derived.Lib.AtoiAll
import Derived.Lib.Split
import Derived.Lib.Strings
import Derived.Lib.ItoaNum
import Derived.Lib.AtoiAllCases
import Derived.Lib.CountLaws
import Derived.Lib.SlTrimSet
import Derived.Lib.IndexMore
import Derived.Lib.LastIndexByte
set_option linter.unusedSimpArgs false
set_option linter.unusedVariables false
set_option linter.unnecessarySimpa false
namespace Go.Isa
open Go Go.Sx
structure In where
 op:Int
 a:Int
 b:Int
 c:Int
 imm:Int
deriving DecidableEq
def In.cells (x:In):List Value:=[.int .i64 x.op,.int .i64 x.a,.int .i64 x.b,.int .i64 x.c,.int .i64 x.imm]
def cellsI (l:List In):List Value:=l.flatMap In.cells
theorem zj48 (l:List In):(cellsI l).length=l.length*5:=zj4u (f:=In.cells) (sz:=5) (fun _=>rfl) l
theorem cellsI_get (l:List In) {i k:Nat} (hi:i < l.length) (hk:k < 5):(cellsI l)[i*5+k]? = (l[i]).cells[k]? := zj2d (f:=In.cells) (sz:=5) (fun _=>rfl) l hi hk
theorem cellsI_app (l m:List In):cellsI (l++m)=cellsI l++cellsI m:=by simp[cellsI]
structure RI where
 i:Nat
 A:Option Addr
 c:Nat
def isB (n:Int):Prop:=0≤n∧n≤255
instance (n:Int):Decidable (isB n):=by unfold isB; infer_instance
def low (m:Int):Int:=if m < 0 then m+4294967296 else m
def okIn (x:In):Prop:=(isB x.op∧isB x.a∧isB x.b∧isB x.c) ∧ -2147483648≤x.imm∧x.imm≤2147483647
instance (x:In):Decidable (okIn x):=by unfold okIn; infer_instance
def okL (l:List In):Prop:=l.length≤1024∧∀ x ∈ l,okIn x
theorem take_succ {α:Type} (l:List α) {i:Nat} (h:i < l.length):l.take (i+1)=l.take i++[l[i]]:=by
 rw[List.take_add_one,List.getElem?_eq_getElem h]; rfl
def nmL (op:Int):List UInt8 :=
 if op=2 then [65,73] else if op=3 then [65,66] else if 4≤op∧op≤10 then [65,66,67] else if op=11∨op=12∨op=14∨op=15∨op=16 then [65,66,73] else if op=13 then [73] else []
def isOp (op:Int):Bool:=decide (1≤op) && decide (op≤18)
def hasL (op:Int) (c:Int):Bool:=decide (0≤Lib.indexByte (nmL op) c.toNat.toUInt8)
def isReg (n:Int):Bool:=decide (0≤n) && decide (n < 8)
def legalB (x:In):Bool:=isOp x.op && (!hasL x.op 65 || isReg x.a) && (!hasL x.op 66 || isReg x.b) && (!hasL x.op 67 || isReg x.c)
theorem zj0w {op:Int} (h:isOp op=true):op=1∨op=2∨op=3∨op=4∨op=5∨op=6∨op=7∨op=8∨op=9∨op=10∨op=11∨op=12∨op=13∨op=14∨op=15∨op=16∨op=17∨op=18:=by
 simp only[isOp,Bool.and_eq_true,decide_eq_true_eq] at h; omega
theorem nmL_out {op:Int} (h:isOp op=false):nmL op=[]:=by
 have:¬ (1≤op∧op≤18):=by intro k; simp[isOp,k.1,k.2] at h
 unfold nmL
 rw[if_neg (by omega),if_neg (by omega),if_neg (by omega),if_neg (by omega),if_neg (by omega)]
structure Ef where
 kind:Int
 next:Int
 reg:Int
 value:Int
 addr:Int
deriving DecidableEq
def Ef.cells (e:Ef):List Value:=[.int .i64 e.kind,.int .i64 e.next,.int .i64 e.reg,.int .u64 e.value,.int .u64 e.addr]
def Ef.val (e:Ef):Value:=.agg e.cells.toArray
def Ef.zero:Ef:=⟨0,0,0,0,0⟩
def is64 (n:Int):Prop := -9223372036854775808≤n∧n≤9223372036854775807
end Go.Isa
namespace Go.Isa
open Go
def fo (c:Int):Nat:=if c=65 then 1 else if c=66 then 2 else if c=67 then 3 else if c=73 then 4 else 0
def fld (x:In) (c:Int):Int:=if c=65 then x.a else if c=66 then x.b else if c=67 then x.c else if c=73 then x.imm else x.op
def ok1 (x:In) (c:Int):Bool:=hasL x.op c || fld x c == 0
def plainB (x:In):Bool:=legalB x && (ok1 x 65 && ok1 x 66 && ok1 x 67 && ok1 x 73)
def wds:List (List UInt8):=[[],[104,97,108,116],[115,101,116],[109,111,118],[97,100,100],[115,117,98],[109,117,108],[97,110,100],[120,111,114],[115,104,108],[115,104,114],[108,111,97,100],[115,116,111,114,101],[106,117,109,112],[101,113],[110,101],[108,116],[98,101,103,105,110],[101,110,100]]
def wdL (op:Int):List UInt8:=wds.getD op.toNat []
def rawW:List UInt8:=[114,97,119]
def rawN:List UInt8:=[79,65,66,67,73]
def argL (x:In) (nm:List UInt8):List UInt8:=nm.flatMap fun c=>32 :: Lib.itoa (fld x c.toNat)
def textL (x:In):List UInt8:=if plainB x then wdL x.op++argL x (nmL x.op) else rawW++argL x rawN
def in64 (x:In):Prop:=is64 x.op∧is64 x.a∧is64 x.b∧is64 x.c∧is64 x.imm
def setF (x:In) (c:Int) (n:Int):In:=if c=65 then { x with a:=n } else if c=66 then { x with b:=n } else if c=67 then { x with c:=n } else if c=73 then { x with imm:=n } else { x with op:=n }
def setL (x:In):List UInt8→List ByteArray→Option In
 | [],_=>some x
 | c :: nm,w :: ws=>match Lib.atoiAll w.data.toList with | .ok n=>setL (setF x c.toNat n) nm ws | _=>none
 | _ :: _,[]=>none
def tryL (x:In) (nm:List UInt8) (ws:List ByteArray) (s:List UInt8):Option In :=
 if ws.length=nm.length+1 then (match setL x nm (ws.drop 1) with | some y=>if textL y=s then some y else none | none=>none) else none
def Ltr (c:UInt8):Prop:=c=65∨c=66∨c=67∨c=73∨c=79
def zeroI:In:=⟨0,0,0,0,0⟩
def opI (op:Int):In:=⟨op,0,0,0,0⟩
def wsL (s:List UInt8):List ByteArray:=Lib.splitB ⟨⟨[32]⟩⟩ 0 (Lib.countB ⟨⟨s⟩⟩ ⟨⟨[32]⟩⟩) ⟨⟨s⟩⟩
def w0L (s:List UInt8):List UInt8:=((wsL s).headD ⟨⟨[]⟩⟩).data.toList
def findL (s:List UInt8):Nat→Int→Option In
 | 0,_=>none
 | n+1,op=>if 1≤op∧wdL op=w0L s then (match tryL (opI op) (nmL op) (wsL s) s with | some y=>some y | none=>findL s n (op+1)) else findL s n (op+1)
def parseL (s:List UInt8):Option In:=if w0L s=rawW then tryL zeroI rawN (wsL s) s else findL s 19 0
def setN (x:In) (z:In):List UInt8→In
 | []=>z
 | c :: nm=>setN x (setF z c.toNat (fld x c.toNat)) nm
end Go.Isa
namespace Go.Asm
open Go Go.Isa
abbrev B:=List UInt8
def isBl (c:UInt8):Bool:=c == 32 || c == 9
def cutRem (s:B):B:=s.takeWhile fun c=>!(c == 59)
def endBl (s:B):B:=(s.reverse.dropWhile isBl).reverse
def trimBl (s:B):B:=(endBl s).dropWhile isBl
def pieces (acc:B):B→List B
 | []=>[acc]
 | c :: s=>if c=10 then acc :: pieces [] s else pieces (acc++[c]) s
def linesF:List B→Nat→List (Nat × B)
 | [],_=>[]
 | p :: ps,n=>match trimBl (cutRem p) with
  | []=>linesF ps (n+1)
  | c :: r=>(n,c :: r) :: linesF ps (n+1)
def linesL (t:B):List (Nat × B):=linesF (pieces [] t) 1
def wordN (s:B):Nat→Bool
 | 0=>false
 | n+1=>wordN s n || (wdL ((n:Int)+1) == s)
def wordB (s:B):Bool:=s == rawW || wordN s 18
def nmCh (c:UInt8):Bool:=(decide (97≤c.toNat) && decide (c.toNat≤122)) || (decide (48≤c.toNat) && decide (c.toNat≤57)) || c == 95
def nameB (s:B):Bool:=match s with
 | []=>false
 | c :: _=>decide (s.length≤16) && decide (97≤c.toNat) && decide (c.toNat≤122) && s.all nmCh && !wordB s
def toldL (s:B):Option B:=if Lib.hasSuffix s [58]=true∧nameB s.dropLast=true then some s.dropLast else none
def lastBl:B→Option Nat
 | []=>none
 | c :: s=>match lastBl s with
  | some k=>some (k+1)
  | none=>if c=32 then some 0 else none
def goOp (op:Int):Bool:=decide (13≤op) && decide (op≤16)
def oneL (s:B):Option (In × B):=match parseL s with
 | some x=>some (x,[])
 | none=>match lastBl s with
  | none=>none
  | some k=>if nameB (s.drop (k+1))=true then (match parseL (s.take k++[32,48]) with
    | some x=>if goOp x.op=true∧legalB x=true∧Lib.hasPrefix s rawW=false then some (x,s.drop (k+1)) else none
    | none=>none) else none
structure Ln where
 n:Nat
 x:In
 name:B
def readL:List (Nat × B)→List Ln→List (B × Nat)→List Ln × List (B × Nat) × Nat
 | [],l,lb=>(l,lb,0)
 | (n,s) :: r,l,lb=>match toldL s with
  | some nm=>if nm ∈ lb.map (·.1) then (l,lb,n) else readL r l (lb++[(nm,l.length)])
  | none=>match oneL s with
   | none=>(l,lb,n)
   | some (x,to)=>if 1024≤l.length then (l,lb,n) else readL r (l++[⟨n,x,to⟩]) lb
def allN (ls:List (Nat × B)):List B:=ls.filterMap fun p=>toldL p.2
def wrongL (told:List B):List Ln→Nat→Nat
 | [],bad=>bad
 | x :: l,bad=>if x.name ≠ []∧x.name ∉ told then x.n else wrongL told l bad
def place (lb:List (B × Nat)) (nm:B):Nat:=match lb with
 | []=>0
 | (a,k) :: r=>if a=nm then k else place r nm
def outL (lb:List (B × Nat)) (l:List Ln):List In:=l.map fun y=>if y.name=[] then y.x else { y.x with imm:=place lb y.name }
def asmL (t:B):List In × List (B × Nat) × Nat :=
 let r:=readL (linesL t) [] []
 let w:=wrongL (allN (linesL t)) r.1 r.2.2
 if w=0 then (outL r.2.1 r.1,r.2.1,0) else ([],[],w)
end Go.Asm
namespace Go.Nl
open Go Go.Lib
def sp:ByteArray:=⟨⟨[10]⟩⟩
def jn (w:List UInt8) (ps:List (List UInt8)):List UInt8:=w++ps.flatMap fun p=>10 :: p
def no10 (w:List UInt8):Prop:=∀ c ∈ w,c ≠ 10
theorem zj49:∀ {w:List UInt8},no10 w→indexByte w 10 = -1
 | [],_=>rfl
 | b :: l,h=>by
  unfold indexByte
  rw[if_neg (by simpa using h b (by simp)),zj49 (fun c hc=>h c (by simp[hc]))]; rfl
theorem ib_at:∀ {w:List UInt8} (r:List UInt8),no10 w→indexByte (w++10 :: r) 10=w.length
 | [],r,_=>by simp[indexByte]
 | b :: l,r,h=>by
  rw[List.cons_append]
  unfold indexByte
  rw[if_neg (by simpa using h b (by simp)),ib_at r (fun c hc=>h c (by simp[hc])),if_neg (by simp)]
  simp
theorem zj2g {w:List UInt8} (h:no10 w):indexB ⟨⟨w⟩⟩ sp = -1:=by
 show index w [10] = -1
 rw[index_one,zj49 h]
theorem idx_at {w:List UInt8} (r:List UInt8) (h:no10 w):indexB ⟨⟨w++10 :: r⟩⟩ sp=w.length:=by
 show index (w++10 :: r) [10]=_
 rw[index_one,ib_at r h]
theorem ba_eq {a b:ByteArray} (h:a.data.toList=b.data.toList):a=b:=by
 cases a; cases b; congr 1; exact Array.toList_inj.1 h
theorem zj2h (w r:List UInt8):(⟨⟨w++10 :: r⟩⟩:ByteArray).extract (w.length+sp.size) (⟨⟨w++10 :: r⟩⟩:ByteArray).size=⟨⟨r⟩⟩:=by
 apply ba_eq
 rw[extract_to_end]
 show (w++10 :: r).drop (w.length+1)=r
 rw[List.drop_append]; simp
theorem zj4y (w r:List UInt8):(⟨⟨w++10 :: r⟩⟩:ByteArray).extract 0 (w.length+0)=⟨⟨w⟩⟩:=by
 apply ba_eq
 rw[extract_data]
 show ((w++10 :: r).drop 0).take (w.length+0 - 0)=w
 simp
theorem zj2i (w p:List UInt8) (ps:List (List UInt8)):jn w (p :: ps)=w++10 :: jn p ps:=by simp[jn]
theorem zj2j:∀ (ps:List (List UInt8)) (w:List UInt8),no10 w→(∀ p ∈ ps,no10 p)→∀ k,ps.length≤k→splitB sp 0 k ⟨⟨jn w ps⟩⟩=(w :: ps).map fun p=>⟨⟨p⟩⟩
 | [],w,hw,_,k,_=>by
  have:jn w []=w:=by simp[jn]
  rw[this,splitB_miss _ _ _ _ (zj2g hw)]; rfl
 | p :: ps,w,hw,hp,k+1,hk=>by
  rw[zj2i,splitB_hit sp 0 k _ w.length (idx_at _ hw),zj2h,zj4y,zj2j ps p (hp p (by simp)) (fun q hq=>hp q (by simp[hq])) k (by simp at hk; omega)]
  rfl
theorem zj2k:∀ (ps:List (List UInt8)) (w:List UInt8),no10 w→(∀ p ∈ ps,no10 p)→countB ⟨⟨jn w ps⟩⟩ sp=ps.length
 | [],w,hw,_=>by
  have:jn w []=w:=by simp[jn]
  rw[this,countB_miss _ _ (zj2g hw)]; rfl
 | p :: ps,w,hw,hp=>by
  rw[zj2i,countB_hit _ sp w.length (by decide) (idx_at _ hw),zj2h,zj2k ps p (hp p (by simp)) (fun q hq=>hp q (by simp[hq]))]
  simp; omega
theorem words_jn (ps:List (List UInt8)) (w:List UInt8) (hw:no10 w) (hp:∀ p ∈ ps,no10 p):splitB sp 0 (countB ⟨⟨jn w ps⟩⟩ sp) ⟨⟨jn w ps⟩⟩=(w :: ps).map fun p=>⟨⟨p⟩⟩:=by
 rw[zj2k ps w hw hp]; exact zj2j ps w hw hp _ (Nat.le_refl _)
def spl (acc:List UInt8):List UInt8→List (List UInt8)
 | []=>[acc]
 | c :: r=>if c=10 then acc :: spl [] r else spl (acc++[c]) r
theorem spl_jn:∀ (s acc:List UInt8),no10 acc→∃ w ps,acc++s=jn w ps∧spl acc s=w :: ps∧no10 w∧∀ p ∈ ps,no10 p
 | [],acc,h=>⟨acc,[],by simp[jn],rfl,h,by simp⟩
 | c :: r,acc,h=>by
  by_cases hc:c=10
  ·subst hc
   obtain⟨w,ps,h1,h2,h3,h4⟩:=spl_jn r [] (by intro c hc; simp at hc)
   refine⟨acc,w :: ps,?_,?_,h,?_⟩
   ·rw[zj2i,← h1]; rfl
   ·rw[spl,if_pos rfl,h2]
   ·intro p hp
    rcases List.mem_cons.1 hp with rfl | hp
    ·exact h3
    ·exact h4 p hp
  ·obtain⟨w,ps,h1,h2,h3,h4⟩:=spl_jn r (acc++[c]) (by
    intro d hd
    rcases List.mem_append.1 hd with hd | hd
    ·exact h d hd
    ·rw[List.mem_singleton.1 hd]; exact hc)
   refine⟨w,ps,?_,?_,h3,h4⟩
   ·rw[← h1]; simp
   ·rw[spl,if_neg hc,h2]
theorem split_spl (s:List UInt8):splitB sp 0 (countB ⟨⟨s⟩⟩ sp) ⟨⟨s⟩⟩=(spl [] s).map fun p=>⟨⟨p⟩⟩:=by
 obtain⟨w,ps,h1,h2,h3,h4⟩:=spl_jn s [] (by intro c hc; simp at hc)
 rw[List.nil_append] at h1
 rw[h2,h1,words_jn ps w h3 h4]
theorem zj2l:∀ (s acc:List UInt8),spl acc s=Go.Asm.pieces acc s
 | [],acc=>rfl
 | c :: r,acc=>by unfold spl Go.Asm.pieces; rw[zj2l r [],zj2l r (acc++[c])]
theorem split_lines (s:List UInt8):splitB sp 0 (countB ⟨⟨s⟩⟩ sp) ⟨⟨s⟩⟩=(Go.Asm.pieces [] s).map fun p=>⟨⟨p⟩⟩:=by rw[split_spl,zj2l]
end Go.Nl
namespace Go.Asm
open Go Go.Lib
theorem cut_rem:∀ (s:B),(cut s [59]).1=cutRem s:=by
 intro s
 unfold cut
 rw[index_one]
 have key:∀ s:B,(indexByte s 59 = -1∧cutRem s=s)∨(0≤indexByte s 59∧cutRem s=s.take (indexByte s 59).toNat):=by
  intro s
  induction s with
  | nil=>left; exact⟨rfl,rfl⟩
  | cons c r ih =>
   unfold indexByte cutRem
   by_cases hc:c=59
   ·subst hc; right; simp
   ·have hb:(c == (59:UInt8))=false:=by simpa using hc
    rw[List.takeWhile_cons]
    simp only[hb,Bool.not_false,if_true,Bool.false_eq_true,if_false]
    rcases ih with⟨h1,h2⟩ | ⟨h1,h2⟩
    ·left; rw[h1]; exact⟨rfl,by unfold cutRem at h2; rw[h2]⟩
    ·right
     have hn:(indexByte r 59 == -1)=false:=by simp; omega
     simp only[hn,Bool.false_eq_true,if_false]
     refine⟨by omega,?_⟩
     unfold cutRem at h2
     rw[h2,show (indexByte r 59+1).toNat=(indexByte r 59).toNat+1 by omega,List.take_succ_cons]
 rcases key s with⟨h1,h2⟩ | ⟨h1,h2⟩
 ·rw[h1,h2]; rfl
 ·rw[if_pos h1,h2]
theorem cs_bl (b:UInt8):[32,9].contains b=isBl b:=by
 simp only[List.contains,List.elem,isBl]
 cases (b == 32) <;> cases (b == 9) <;> rfl
theorem trim_bl (s:B):trimS s [32,9]=trimBl s:=by
 unfold trimS trimLeftS trimRightS trimBl endBl
 have:(fun b=>[32,9].contains b)=isBl:=funext cs_bl
 simp only[this]
theorem zj2m (c:UInt8) (t:B):endBl (c :: t)=if endBl t=[]∧isBl c=true then [] else c :: endBl t:=by
 unfold endBl
 rw[List.reverse_cons,List.dropWhile_append]
 by_cases h:t.reverse.dropWhile isBl=[]
 ·rw[h]
  cases hc:isBl c <;> simp[hc]
 ·have h2:(t.reverse.dropWhile isBl).isEmpty=false:=by simpa using h
  rw[h2]
  simp[h]
theorem suf_dot (s:B) (c:UInt8):trimSuffix s [c]=if hasSuffix s [c]=true then s.dropLast else s:=by
 unfold trimSuffix
 split
 ·rw[List.dropLast_eq_take]; rfl
 ·rfl
end Go.Asm
namespace Go.Asm
open Go Go.Sx
def StOk (m:List (Value × Value)):Prop:=∀ p ∈ m,∃ (k:ByteArray) (n:Int),p.1=.string k∧p.2=.int .i64 n
theorem zj1d (q v:Value) (l:List (Value × Value)) (w:Value):mget ((q,v) :: l) w=if keyB w q=true then some v else mget l w:=by
 cases h:keyB w q <;> simp[mget,h]
theorem sput_cons (q v:Value) (l:List (Value × Value)) (w u:Value):mput ((q,v) :: l) w u=if keyB w q=true then (w,u) :: l else (q,v) :: mput l w u:=by
 cases h:keyB w q <;> simp[mput,h]
theorem zj2n (a b:ByteArray):(keyB (.string a) (.string b)=true)=(a=b):=by
 cases a with
 | mk da =>
  cases b with
  | mk db =>
   show ((da == db)=true)=_
   rw[beq_iff_eq,ByteArray.mk.injEq]
theorem StOk.nil:StOk []:=fun p hp=>by simp at hp
theorem StOk.put {m:List (Value × Value)} (h:StOk m) (k:ByteArray) (n:Int):StOk (mput m (.string k) (.int .i64 n)):=by
 induction m with
 | nil=>intro p hp; simp[mput] at hp; subst hp; exact⟨k,n,rfl,rfl⟩
 | cons q m ih =>
  obtain⟨q,u⟩:=q
  intro p hp
  rw[sput_cons] at hp
  split at hp
  ·rcases List.mem_cons.1 hp with rfl | hp
   ·exact⟨k,n,rfl,rfl⟩
   ·exact h p (by simp[hp])
  ·rcases List.mem_cons.1 hp with rfl | hp
   ·exact h _ (by simp)
   ·exact ih (fun p hp=>h p (by simp[hp])) p hp
theorem sget_sput {m:List (Value × Value)} (h:StOk m) (k j:ByteArray) (n:Int):mget (mput m (.string k) (.int .i64 n)) (.string j)=if j=k then some (.int .i64 n) else mget m (.string j):=by
 induction m with
 | nil=>simp only[mput,zj1d,zj2n]
 | cons q m ih =>
  obtain⟨q,u⟩:=q
  obtain⟨b,z,h1,h2⟩:=h (q,u) (by simp)
  simp only at h1 h2
  subst h1; subst h2
  have ih:=ih fun p hp=>h p (by simp[hp])
  rw[sput_cons]
  simp only[zj2n]
  by_cases e:k=b
  ·subst e
   rw[if_pos rfl,zj1d]
   simp only[zj2n]
   by_cases e2:j=k
   ·rw[if_pos e2,if_pos e2]
   ·rw[if_neg e2,if_neg e2,zj1d]; simp only[zj2n]; rw[if_neg e2]
  ·rw[if_neg e,zj1d,zj1d,ih]
   simp only[zj2n]
   by_cases e2:j=b
   ·rw[if_pos e2,if_pos e2,if_neg (fun h=>e (h.symm.trans e2))]
   ·rw[if_neg e2,if_neg e2]
theorem StOk.keys {m:List (Value × Value)} (h:StOk m):∀ p ∈ m,keyIs .str p.1=true:=fun p hp=>by
 obtain⟨k,n,h1,_⟩:=h p hp
 rw[h1]; rfl
theorem StOk.val {m:List (Value × Value)} (h:StOk m):∀ {k:ByteArray} {v:Value},mget m (.string k)=some v→∃ n,v=.int .i64 n:=by
 induction m with
 | nil=>intro k v hv; simp[mget] at hv
 | cons q m ih =>
  obtain⟨q,u⟩:=q
  intro k v hv
  rw[zj1d] at hv
  obtain⟨b,z,h1,h2⟩:=h (q,u) (by simp)
  simp only at h1 h2
  split at hv
  ·injection hv with hv; exact⟨z,by rw[← hv,h2]⟩
  ·exact ih (fun p hp=>h p (by simp[hp])) hv
theorem ba_inj {a b:B}:((⟨⟨a⟩⟩:ByteArray)=⟨⟨b⟩⟩)=(a=b):=by simp
def toldP (p:B):Option B:=match trimBl (cutRem p) with
 | []=>none
 | c :: r=>toldL (c :: r)
theorem zj30:∀ (ps:List B) (n:Nat),allN (linesF ps n)=ps.filterMap toldP
 | [],n=>rfl
 | p :: ps,n=>by
  have ih:=zj30 ps (n+1)
  unfold allN at *
  rw[List.filterMap_cons]
  unfold linesF
  cases h:trimBl (cutRem p) with
  | nil =>
   have e:toldP p=none:=by unfold toldP; rw[h]
   rw[e]; exact ih
  | cons c r =>
   have e:toldP p=toldL (c :: r):=by unfold toldP; rw[h]
   rw[e,List.filterMap_cons,ih]
theorem zj4z (p:B):(trimBl (cutRem p)).length≤p.length:=by
 have h1:(cutRem p).length≤p.length:=by unfold cutRem; exact (List.takeWhile_sublist _).length_le
 have h2:(endBl (cutRem p)).length≤(cutRem p).length:=by
  unfold endBl; rw[List.length_reverse]
  have:=(List.dropWhile_sublist isBl (l:=(cutRem p).reverse)).length_le
  simpa using this
 have h3:(trimBl (cutRem p)).length≤(endBl (cutRem p)).length:=(List.dropWhile_sublist _).length_le
 omega
theorem zj2o (p:B):(cutRem p).length≤p.length:=by unfold cutRem; exact (List.takeWhile_sublist _).length_le
theorem zj0x:∀ (s acc p:B),p ∈ pieces acc s→p.length≤acc.length+s.length
 | [],acc,p,h=>by simp[pieces] at h; subst h; simp
 | c :: s,acc,p,h=>by
  unfold pieces at h
  split at h
  ·rcases List.mem_cons.1 h with rfl | h
   ·omega
   ·have:=zj0x s [] p h; simp at this ⊢; omega
  ·have:=zj0x s (acc++[c]) p h; simp at this ⊢; omega
def lkB:List (B × Nat)→B→Option Nat
 | [],_=>none
 | (a,k) :: r,nm=>if a=nm then some k else lkB r nm
theorem place_lk:∀ (lb:List (B × Nat)) (nm:B),place lb nm=(lkB lb nm).getD 0
 | [],_=>rfl
 | (a,k) :: r,nm=>by
  unfold place lkB
  split
  ·rfl
  ·exact place_lk r nm
theorem lkB_snoc:∀ (lb:List (B × Nat)) (a:B) (k:Nat) (nm:B),a ∉ lb.map (·.1)→lkB (lb++[(a,k)]) nm=if nm=a then some k else lkB lb nm
 | [],a,k,nm,_=>by
  show (if a=nm then some k else none)=_
  by_cases h:a=nm
  ·subst h; simp
  ·rw[if_neg h,if_neg (fun e=>h e.symm)]; rfl
 | (b,j) :: r,a,k,nm,h=>by
  have h1:a ≠ b:=fun e=>h (by simp[e])
  have h2:a ∉ r.map (·.1):=fun e=>h (by simp only[List.map_cons,List.mem_cons]; exact .inr e)
  show (if b=nm then some j else lkB (r++[(a,k)]) nm)=if nm=a then some k else (if b=nm then some j else lkB r nm)
  rw[lkB_snoc r a k nm h2]
  by_cases e:b=nm
  ·subst e
   rw[if_pos rfl,if_pos rfl,if_neg (fun e=>h1 e.symm)]
  ·rw[if_neg e,if_neg e]
def Places (m:List (Value × Value)) (lb:List (B × Nat)):Prop:=StOk m∧∀ nm:B,mget m (.string ⟨⟨nm⟩⟩)=(lkB lb nm).map fun k=>.int .i64 (k:Int)
theorem Places.nil:Places [] []:=⟨StOk.nil,fun nm=>by simp[mget,lkB]⟩
theorem Places.put {m:List (Value × Value)} {lb:List (B × Nat)} (h:Places m lb) {a:B} (k:Nat) (ha:a ∉ lb.map (·.1)):Places (mput m (.string ⟨⟨a⟩⟩) (.int .i64 (k:Int))) (lb++[(a,k)]) :=
 ⟨h.1.put _ _,fun nm=>by
  rw[sget_sput h.1,h.2 nm,lkB_snoc _ _ _ _ ha]
  by_cases e:nm=a
  ·subst e; simp
  ·have e':¬ (⟨⟨nm⟩⟩:ByteArray)=⟨⟨a⟩⟩:=fun h=>e (by rw[ba_inj] at h; exact h)
   rw[if_neg e',if_neg e]⟩
end Go.Asm
namespace Go.Asm
open Go
theorem zj1e:∀ {s:B},lastBl s=none→∀ j (h:j < s.length),s[j] ≠ 32
 | [],_,j,h=>absurd h (Nat.not_lt_zero _)
 | c :: s,hn,j,h=>by
  unfold lastBl at hn
  split at hn
  ·cases hn
  ·rename_i h1
   split at hn
   ·cases hn
   ·rename_i h2
    cases j with
    | zero=>exact h2
    | succ j=>exact zj1e h1 j (by simpa using h)
theorem zj16:∀ {s:B} {k:Nat},lastBl s=some k→∃ h:k < s.length,s[k]=32∧∀ j (hj:j < s.length),k < j→s[j] ≠ 32
 | [],k,h=>by cases h
 | c :: s,k,h=>by
  unfold lastBl at h
  split at h
  ·rename_i m hm
   injection h with h; subst h
   obtain⟨h1,h2,h3⟩:=zj16 hm
   refine⟨by simp; omega,by simpa using h2,fun j hj hk=>?_⟩
   cases j with
   | zero=>omega
   | succ j=>exact h3 j (by simpa using hj) (by omega)
  ·rename_i hn
   split at h
   ·rename_i hc
    injection h with h; subst h
    refine⟨by simp,by simpa using hc,fun j hj hk=>?_⟩
    cases j with
    | zero=>omega
    | succ j=>exact zj1e hn j (by simpa using hj)
   ·cases h
theorem get_ba (s:B) {j:Nat} (h:j < s.length):(⟨⟨s⟩⟩:ByteArray).data[j]! = s[j]:=by
 show (⟨s⟩:Array UInt8)[j]! = s[j]
 rw[getElem!_pos (⟨s⟩:Array UInt8) j h]
 rfl
theorem last_lib (s:B):Lib.lastIndexByte ⟨⟨s⟩⟩ 32=(match lastBl s with | some k=>(k:Int) | none => -1):=by
 unfold Lib.lastIndexByte
 have hsz:(⟨⟨s⟩⟩:ByteArray).size=s.length:=rfl
 have hsp:=Lib.lastIdx_spec ⟨⟨s⟩⟩ 32 (⟨⟨s⟩⟩:ByteArray).size
 rw[hsz] at hsp ⊢
 have cast:∀ (d:UInt8),(d.toNat:Int)=32 ↔ d=32:=fun d=>by
  have e:(32:UInt8).toNat=32:=rfl
  rw[← UInt8.toNat_inj,e]; constructor <;> intro h <;> omega
 cases hl:lastBl s with
 | none =>
  rcases hsp with⟨h,_⟩ | ⟨i,h1,_,h3,_⟩
  ·exact h
  ·rw[get_ba s h1,cast] at h3
   exact absurd h3 (zj1e hl i h1)
 | some k =>
  obtain⟨h1,h2,h3⟩:=zj16 hl
  rcases hsp with⟨_,h⟩ | ⟨i,g1,g2,g3,g4⟩
  ·exact absurd ((cast _).2 (by rw[get_ba s h1]; exact h2)) (h k h1)
  ·rw[g2]
   rw[get_ba s g1,cast] at g3
   rcases Nat.lt_trichotomy i k with h | h | h
   ·exact absurd ((cast _).2 (by rw[get_ba s h1]; exact h2)) (g4 k h h1)
   ·rw[h]
   ·exact absurd g3 (h3 i g1 h)
theorem zj1v (s:B) (k:Nat):(⟨⟨s⟩⟩:ByteArray).extract k (⟨⟨s⟩⟩:ByteArray).size=⟨⟨s.drop k⟩⟩:=by
 apply Go.Nl.ba_eq
 rw[Lib.extract_to_end]
theorem zj1w (s:B) (k:Nat):(⟨⟨s⟩⟩:ByteArray).extract 0 k=⟨⟨s.take k⟩⟩:=by
 apply Go.Nl.ba_eq
 rw[Lib.extract_data]
 simp
open Go.Isa
structure LbOk (l:List Ln) (lb:List (B × Nat)):Prop where
 le:∀ p ∈ lb,p.2≤l.length
 up:lb.Pairwise fun a b=>a.2≤b.2
 nd:(lb.map (·.1)).Nodup
theorem LbOk.nil:LbOk [] []:=⟨by simp,List.Pairwise.nil,List.nodup_nil⟩
theorem zj2p:∀ (ls:List (Nat × B)) (l:List Ln) (lb:List (B × Nat)),LbOk l lb→l.length≤1024→LbOk (readL ls l lb).1 (readL ls l lb).2.1∧(readL ls l lb).1.length≤1024
 | [],l,lb,h,hl=>⟨h,hl⟩
 | (n,s) :: r,l,lb,h,hl=>by
  unfold readL
  split
  ·rename_i nm _
   split
   ·exact⟨h,hl⟩
   ·rename_i hn
    refine zj2p r l _ ⟨?_,?_,?_⟩ hl
    ·intro p hp
     rcases List.mem_append.1 hp with hp | hp
     ·exact h.le p hp
     ·rw[List.mem_singleton.1 hp]; exact Nat.le_refl _
    ·refine List.pairwise_append.2 ⟨h.up,List.pairwise_singleton _ _,fun a ha b hb=>?_⟩
     rw[List.mem_singleton.1 hb]; exact h.le a ha
    ·rw[List.map_append]
     refine List.nodup_append.2 ⟨h.nd,by simp,fun a ha b hb=>?_⟩
     rw[List.map_cons,List.map_nil,List.mem_singleton] at hb
     subst hb
     intro e; subst e; exact hn ha
  ·split
   ·exact⟨h,hl⟩
   ·split
    ·exact⟨h,hl⟩
    ·rename_i hn
     refine zj2p r _ lb ⟨fun p hp=>?_,h.up,h.nd⟩ (by simp; omega)
     have:=h.le p hp
     simp; omega
end Go.Asm
namespace Go.Dig
open Go
def dd (u:Nat):List UInt8:=if u=0 then [] else Lib.decDigits u
structure At (n rest:Int) (s:List UInt8) (k:Nat):Prop where
 said:Lib.decDigits n.natAbs=(if k=0 then Lib.decDigits rest.natAbs else dd rest.natAbs)++s
 lt:rest.natAbs < 10 ^ (20 - k)
 len:s.length=k
 k20:k≤20
 fits:rest.natAbs≤9223372036854775808
 sign:rest=0∨(rest < 0 ↔ n < 0)
def last (rest:Int):Int:=if rest.tmod 10 < 0 then - rest.tmod 10 else rest.tmod 10
theorem last_eq (rest:Int):last rest=((rest.natAbs % 10:Nat):Int):=by
 unfold last
 have h:=Int.natAbs_tmod rest 10
 have h10:(10:Int).natAbs=10:=rfl
 rw[h10] at h
 split <;> omega
theorem zj0q (rest:Int):(rest.tdiv 10).natAbs=rest.natAbs / 10:=Int.natAbs_tdiv rest 10
theorem dec_last (u:Nat):Lib.decDigits u=dd (u / 10)++[UInt8.ofNat (48+u % 10)]:=by
 rw[Lib.decDigits]
 split
 ·rename_i h
  have e:u / 10=0:=by omega
  rw[e,dd,if_pos rfl,Nat.mod_eq_of_lt h]; rfl
 ·rename_i h
  rw[dd,if_neg (by omega)]
theorem start {n:Int} (h0 : -9223372036854775808≤n) (h1:n≤9223372036854775807):At n n [] 0 :=
 ⟨by simp,by rw[show 10 ^ (20 - 0)=100000000000000000000 by decide]; omega,rfl,by omega,by omega,.inr Iff.rfl⟩
theorem step {n rest:Int} {s:List UInt8} {k:Nat} (h:At n rest s k) (hk:k < 20) (hg:k=0∨rest ≠ 0) :
  At n (rest.tdiv 10) (UInt8.ofNat (48+rest.natAbs % 10) :: s) (k+1):=by
 refine⟨?_,?_,by simp[h.len],by omega,?_,?_⟩
 ·rw[if_neg (by omega),zj0q,h.said]
  have e:(if k=0 then Lib.decDigits rest.natAbs else dd rest.natAbs)=Lib.decDigits rest.natAbs:=by
   split
   ·rfl
   ·rw[dd,if_neg (by omega)]
  rw[e,dec_last,List.append_assoc]; rfl
 ·rw[zj0q]
  have:=h.lt
  rw[show 20 - k=20 - (k+1)+1 by omega,Nat.pow_succ] at this
  omega
 ·rw[zj0q]; have:=h.fits; omega
 ·have e:=zj0q rest
  by_cases hz:rest.tdiv 10=0
  ·exact .inl hz
  ·right
   rcases h.sign with hs | hs
   ·subst hs; simp at hz
   ·rw[← hs]
    constructor
    ·intro hlt
     by_cases hr:rest < 0
     ·exact hr
     ·have:=Int.tdiv_nonneg (a:=rest) (b:=10) (by omega) (by decide); omega
    ·intro hlt
     have:rest.tdiv 10≤0:=by
      have hs:Int.sign 10=1:=rfl
      rw[Int.tdiv_eq_ediv,hs]; split <;> omega
     omega
theorem stop {n rest:Int} {s:List UInt8} {k:Nat} (h:At n rest s k) (hg:¬ (k < 20∧(k=0∨rest ≠ 0))):Lib.decDigits n.natAbs=s:=by
 have hr:rest=0:=by
  by_cases hk:k < 20
  ·by_cases hz:rest=0
   ·exact hz
   ·exact absurd ⟨hk,.inr hz⟩ hg
  ·have hl:=h.lt
   have e:k=20:=by have:=h.k20; omega
   subst e
   simp at hl
   exact hl
 have hk:k ≠ 0:=fun hk=>hg ⟨by omega,.inl hk⟩
 rw[h.said,if_neg hk,hr,dd,if_pos (by simp)]; rfl
theorem itoa_eq (n:Int):Lib.itoa n=if n < 0 then 45 :: Lib.decDigits n.natAbs else Lib.decDigits n.natAbs:=by
 unfold Lib.itoa
 split
 ·rfl
 ·rw[show n.toNat=n.natAbs by omega]
end Go.Dig
namespace Go.Asm
open Go Go.Sx Go.Isa
theorem go_cases {op:Int} (h:goOp op=true):op=13∨op=14∨op=15∨op=16:=by
 unfold goOp at h; simp only[Bool.and_eq_true,decide_eq_true_eq] at h; omega
theorem tgt_head {x:In} (hg:goOp x.op=true):∃ c t,textL x=c :: t∧Lib.hasPrefix (textL x) rawW=(c == 114):=by
 unfold textL
 cases hp:plainB x with
 | false=>exact⟨114,[97,119]++argL x rawN,rfl,by rw[if_neg (by simp)]; simp[Lib.hasPrefix,rawW,List.isPrefixOf]⟩
 | true =>
  rw[if_pos rfl]
  rcases go_cases hg with h | h | h | h <;> rw[h]
  ·exact⟨106,[117,109,112]++argL x (nmL 13),rfl,by simp[Lib.hasPrefix,rawW,wdL,wds,List.isPrefixOf]⟩
  ·exact⟨101,[113]++argL x (nmL 14),rfl,by simp[Lib.hasPrefix,rawW,wdL,wds,List.isPrefixOf]⟩
  ·exact⟨110,[101]++argL x (nmL 15),rfl,by simp[Lib.hasPrefix,rawW,wdL,wds,List.isPrefixOf]⟩
  ·exact⟨108,[116]++argL x (nmL 16),rfl,by simp[Lib.hasPrefix,rawW,wdL,wds,List.isPrefixOf]⟩
end Go.Asm
