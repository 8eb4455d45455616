/- The engine, part 2: operations made small ('XK'), what they do to a symbolic state, and that this is so. -/
import Derived.Test.YtgghmmjoplddbaaGreatDoorSxCore
import Derived.Laws.Cells
import Derived.Laws.CopyRow
import Derived.Laws.Entries
import Derived.Lib.Bytealg
import Derived.DeepKeys3
set_option linter.unusedSimpArgs false
set_option linter.unusedVariables false
set_option linter.unnecessarySimpa false
namespace Go.Sx
inductive CK where
 | int (k:IntKind) | bool | str | ptr | slc | map | fn | other
inductive NK where
 | p
 | s
 | m
 | f
inductive XK where
 | mov (x:Operand)
 | pick (c a b:Operand)
 | arith (op:BinOp) (k:IntKind) (x y:Operand)
 | div (op:BinOp) (k:IntKind) (x y:Operand)
 | bits (op:BinOp) (k:IntKind) (x y:Operand)
 | shift (op:BinOp) (k:IntKind) (x y:Operand)
 | cmp (op:BinOp) (k:IntKind) (x y:Operand)
 | eqb (neg:Bool) (x y:Operand)
 | eqs (op:BinOp) (x y:Operand)
 | not (x:Operand)
 | conv (k:IntKind) (x:Operand)
 | lenS (x:Operand)
 | lenT (x:Operand)
 | lenA (n:Nat) (x:Operand)
 | idx (sz:Nat) (x i:Operand)
 | idxA (n sz:Nat) (x i:Operand)
 | fld (off:Nat) (x:Operand)
 | fldv (off size:Nat) (agg:Bool) (x:Operand)
 | load (cks:List CK) (agg:Bool) (x:Operand)
 | store (n:Nat) (x v:Operand)
 | alloc (t:TypeId) (zero:List Value)
 | box (t:TypeId) (n:Nat) (v:Operand)
 | build (zero:List Value) (parts:List (Nat × Nat × Operand))
 | buildS (t:TypeId) (len sz:Nat) (zero:List Value) (parts:List (Nat × Operand))
 | nilc (x:Operand)
 | ext (x:Operand) (i:Nat)
 | mkfn (f:Fn) (first captured:List Operand)
 | app (t:TypeId) (sz bytes:Nat) (s x:Operand)
 | cat (x y:Operand)
 | b2s (x:Operand)
 | sub (sz:Nat) (x:Operand) (lo hi:Option Operand)
 | subT (x:Operand) (lo hi:Option Operand)
 | ixT (x i:Operand)
 | ixA (n sz:Nat) (agg:Bool) (x i:Operand)
 | eqa (neg:Bool) (ks:List CK) (x y:Operand)
 | isnil (k:NK) (neg:Bool) (x:Operand)
 | neg (k:IntKind) (x:Operand)
 | mm (mx:Bool) (k:IntKind) (x y:Operand)
 | mkmap
 | lkup (kt:CK) (z:Value) (ok:Bool) (x i:Operand)
 | mupd (kt:CK) (x k v:Operand)
 | mdel (kt:CK) (x k:Operand)
 | lenM (x:Operand)
 | mkslc (t:TypeId) (sz bytes:Nat) (z:List Value) (l c:Operand)
 | cpy (sz:Nat) (str:Bool) (d s:Operand)
 | mkif (t:TypeId) (x:Operand)
 | eqif (neg:Bool) (t:TypeId) (x y:Operand)
 | s2b (t:TypeId) (x:Operand)
 | asub (n sz:Nat) (x:Operand) (lo hi:Option Operand)
 | rngS (x:Operand)
 | nxtS (x:Operand)
 | lib (w:Nat) (args:List Operand)
 | clr (sz:Nat) (z:List Value) (x:Operand)
 | mrk (x:Operand)
 | lkupA (cs:List CK) (z:Value) (ok:Bool) (x i:Operand)
 | mupdA (cs:List CK) (x k v:Operand)
 | str0 (x v:Operand)
 | rngM (x:Operand)
 | nxtM (x:Operand)
 | entM (x:Operand)
 | dead
def isAggT (P:Program) (t:TypeId):Bool:=match P.underlying t with | some (.struct _) | some (.array _ _)=>true | _=>false
def szT (P:Program) (t:TypeId):Option Nat:=(P.info? t).map (·.size)
def zeroT (P:Program) (t:TypeId):Option (List Value):=match P.info? t with | some i=>(match i.zero with | some z=>some z.cells.toList | none=>none) | none=>none
def svc:Value→SV
 | .bool true=>.bt
 | .bool false=>.bf
 | v=>.val v
theorem svc_is (H:List SO) (v:Value):Is H (svc v) v:=by
 cases v with
 | bool b=>cases b <;> simp[svc,Is]
 | _=>simp[svc,Is]
def ev (F:List (Nat × SV)):Operand→SV
 | .tmp t=>lk F t
 | .const v=>svc v
 | .global g=>.adr (some ⟨g,0,none⟩) 0
 | .func f=>.val (.func (.func f) #[] #[])
theorem Rep.ev {E:Env} {s:SS} {a:Act} {W:World} (h:Rep E s a W):∀ x,Is s.H (Sx.ev s.F x) (a.eval x)
 | .tmp t=>h.frame t
 | .const v=>svc_is _ _
 | .global g=>by simp[Sx.ev,Is,Act.eval,Addr.add]
 | .func f=>by simp[Sx.ev,Is,Act.eval]
def evL (F:List (Nat × SV)):List Operand→List SV
 | []=>[]
 | x :: l=>ev F x :: evL F l
theorem Rep.evL {E:Env} {s:SS} {a:Act} {W:World} (h:Rep E s a W):∀ l,IsL s.H (Sx.evL s.F l) (l.map a.eval)
 | []=>by simp[Sx.evL,IsL]
 | x :: l=>by
  simp only[Sx.evL,IsL,List.map_cons]
  exact⟨_,_,h.ev x,Rep.evL h l,rfl⟩
def ckOf (P:Program):Nat→TypeId→Option (List CK)
 | 0,_=>none
 | f+1,t=>match P.underlying t with
  | some (.int k)=>some [.int k]
  | some .bool=>some [.bool]
  | some .string=>some [.str]
  | some (.pointer _)=>some [.ptr]
  | some (.slice _)=>some [.slc]
  | some (.map _ _)=>some [.map]
  | some (.func _ _ _)=>some [.fn]
  | some (.struct fs)=>fs.toList.foldr (fun x acc=>match ckOf P f x.type,acc with | some a,some b=>some (a++b) | _,_=>none) (some [])
  | some (.array n e)=>(match ckOf P f e with | some l=>some ((List.replicate n l).flatten) | none=>none)
  | some _=>some [.other]
  | none=>none
def ArOk (op:BinOp) (k:IntKind) (a b r:Int):Prop:=match op with
 | .add=>r=k.wrap (a+b)
 | .sub=>r=k.wrap (a - b)
 | .mul=>r=k.wrap (a*b)
 | _=>False
def DivOk (op:BinOp) (k:IntKind) (a b r:Int):Prop:=b ≠ 0∧match op with
 | .quo=>r=k.wrap (a.tdiv b)
 | .rem=>r=a.tmod b
 | _=>False
def BitOk (op:BinOp) (k:IntKind) (a b r:Int):Prop:=match op with
 | .and=>r=k.wrap (BitVec.ofInt k.bits a &&& BitVec.ofInt k.bits b).toNat
 | .or=>r=k.wrap (BitVec.ofInt k.bits a ||| BitVec.ofInt k.bits b).toNat
 | .xor=>r=k.wrap (BitVec.ofInt k.bits a ^^^ BitVec.ofInt k.bits b).toNat
 | .andNot=>r=k.wrap (BitVec.ofInt k.bits a &&& ~~~ BitVec.ofInt k.bits b).toNat
 | _=>False
def ShOk (op:BinOp) (k:IntKind) (a b r:Int):Prop:=0≤b∧match op with
 | .shl=>r=k.wrap (a*2 ^ (min b.toNat k.bits))
 | .shr=>r=a.fdiv (2 ^ (min b.toNat k.bits))
 | _=>False
def ConvOk (k:IntKind) (a r:Int):Prop:=r=k.wrap a
def cmpB (op:BinOp) (a b:Int):Bool:=match op with
 | .eql=>a == b
 | .neq=>a != b
 | .lss=>decide (a < b)
 | .leq=>decide (a≤b)
 | .gtr=>decide (a > b)
 | .geq=>decide (a≥b)
 | _=>false
def zj5o:BinOp→Bool
 | .eql | .neq | .lss | .leq | .gtr | .geq=>true
 | _=>false
def strB (op:BinOp) (x y:ByteArray):Bool:=match op with
 | .eql=>x.toList == y.toList
 | .neq=>!(x.toList == y.toList)
 | .lss=>Op.bytesLess x.toList y.toList
 | .leq=>Op.bytesLess x.toList y.toList || x.toList == y.toList
 | .gtr=>!(Op.bytesLess x.toList y.toList || x.toList == y.toList)
 | .geq=>!(Op.bytesLess x.toList y.toList)
 | _=>false
def kEq:IntKind→IntKind→Bool
 | .i8,.i8 | .i16,.i16 | .i32,.i32 | .i64,.i64 | .u8,.u8 | .u16,.u16 | .u32,.u32 | .u64,.u64=>true
 | _,_=>false
theorem kEq_eq {j k:IntKind} (h:kEq j k=true):j=k:=by cases j <;> cases k <;> first | rfl | simp[kEq] at h
def CellAt (E:Env) (A:Option Addr) (off:Nat) (v:Value):Prop:=∃ a,A=some a∧E.old a.block∧E.b.cell? (a.add off)=some v
def ckEx (c:CK) (F:Value→Prop) (K:SV→Prop):Prop:=match c with
 | .int k=>∃ n,F (.int k n)∧K (.val (.int k n))
 | .bool=>∃ b,F (.bool b)∧K (.val (.bool b))
 | .str=>∃ b,F (.string b)∧K (.val (.string b))
 | .ptr=>∃ p,F (.pointer p)∧K (.adr p 0)
 | .slc=>∃ a n c,F (.slice a n c)∧K (.val (.slice a n c))
 | .map=>∃ m,F (.map m)∧K (.val (.map m))
 | .fn=>∃ v,F v∧∃ h:v.oneCell'=true,K (.opq v h)
 | .other=>∃ v,F v∧∃ h:v.oneCell'=true,K (.opq v h)
def ckExL:List CK→(Nat→Value→Prop)→Nat→(List SV→Prop)→Prop
 | [],_,_,K=>K []
 | c :: l,F,off,K=>ckEx c (F off) fun v=>ckExL l F (off+1) fun vs=>K (v :: vs)
def one (agg:Bool) (l:List SV) (K:SV→Prop):Prop:=match agg,l with
 | true,l=>K (.agg l)
 | false,[v]=>K v
 | false,_=>False
def takeL {α:Type}:Nat→List α→Option (List α)
 | 0,_=>some []
 | _+1,[]=>none
 | n+1,x :: l=>match takeL n l with | some r=>some (x :: r) | none=>none
def dropL {α:Type}:Nat→List α→List α
 | 0,l=>l
 | _+1,[]=>[]
 | n+1,_ :: l=>dropL n l
def splice {α:Type}:List α→Nat→List α→List α
 | l,_,[]=>l
 | l,off,v :: vs=>splice (setn l off v) (off+1) vs
def okCell:SV→Bool
 | .unk | .agg _ | .tup _ | .val (.agg _) | .val (.tuple _)=>false
 | _=>true
def okL:List SV→Bool
 | []=>true
 | v :: l=>match okCell v with | true=>okL l | false=>false
def cellsOf (n:Nat):SV→Option (List SV)
 | .agg l=>match l.length == n,okL l with | true,true=>some l | _,_=>none
 | v=>match n == 1,okCell v with | true,true=>some [v] | _,_=>none
def atEntry (H:List SO) (i:Nat) (kc:Nat→TypeId→List SV→Prop) (kr:Nat→TypeId→List Value→Prop):Prop:=match nth H i with
 | some (.cells g t l)=>kc g t l
 | some (.row g t xs)=>kr g t xs
 | some (.frz g t xs)=>kr g t xs
 | _=>False
def cur (H:List SO) (i ver:Nat) (K:TypeId→Nat→Option Addr→Nat→Nat→List Value→Prop):Prop:=match nth H i with
 | some (.own t ver' sz A n c xs)=>(match ver' == ver with | true=>K t sz A n c xs | false=>False)
 | _=>False
def xload (E:Env) (H:List SO) (cks:List CK) (agg:Bool) (p:SV) (K:SV→Prop):Prop:=match p with
 | .ptr i off=>atEntry H i (fun _ _ l=>match takeL cks.length (dropL off l) with | some vs=>one agg vs K | none=>False)
   (fun _ _ xs=>ckExL cks (fun j v=>xs[j]? = some v) off fun vs=>one agg vs K)
 | .adr A off=>ckExL cks (fun j v=>CellAt E A j v) off fun vs=>one agg vs K
 | .oad i ver off=>cur H i ver fun _ _ _ _ _ xs=>ckExL cks (fun j v=>xs[j]? = some v) off fun vs=>one agg vs K
 | _=>False
def xstore (H:List SO) (n:Nat) (p v:SV) (K:List SO→Prop):Prop:=match cellsOf n v with
 | none=>False
 | some l=>match p with
  | .ptr i off=>(match nth H i with
    | some (.cells g t c)=>(match takeL n (dropL off c) with | some _=>K (setn H i (.cells g t (splice c off l))) | none=>False)
    | some (.row g t xs)=>(match denL H l with | some us=>(off+n≤xs.length)∧K (setn H i (.row g t (splice xs off us))) | none=>False)
    | _=>False)
  | .oad i ver off=>cur H i ver fun t sz A m c xs=>(match denL H l with | some us=>(off+n≤xs.length)∧K (setn H i (.own t ver sz A m c (splice xs off us))) | none=>False)
  | _=>False
def xfill (F:List (Nat × SV)):List SV→List (Nat × Nat × Operand)→Option (List SV)
 | l,[]=>some l
 | l,(off,n,x) :: r=>match cellsOf n (ev F x),takeL n (dropL off l),n with | some c,some _,_+1=>xfill F (splice l off c) r | _,_,_=>none
def xfillS (F:List (Nat × SV)) (sz:Nat):List SV→List (Nat × Operand)→Option (List SV)
 | l,[]=>some l
 | l,(i,x) :: r=>match cellsOf sz (ev F x),takeL sz (dropL (i*sz) l),sz with | some c,some _,_+1=>xfillS F sz (splice l (i*sz) c) r | _,_,_=>none
def repL (zero:List SV):Nat→List SV
 | 0=>[]
 | n+1=>zero++repL zero n
def bOf:SV→Option Bool
 | .bt=>some true
 | .bf=>some false
 | .val (.bool b)=>some b
 | _=>none
def RdOld (E:Env) (B:Option Addr) (k:Nat) (news:List Value):Prop :=
 news.length=k∧(0 < k→∃ a,B=some a∧E.old a.block∧∀ j u,news[j]? = some u→E.b.cell? (a.add j)=some u)∧∀ u ∈ news,u.oneCell'=true
def bytesV (b:ByteArray):List Value:=b.data.toList.map fun c=>.int .u8 c.toNat
def xsrc (E:Env) (H:List SO) (sz:Nat) (x:SV) (K:Nat→List Value→Prop):Prop:=match x with
 | .slc j off m _=>(match nth H j with
   | some (.cells _ _ l)=>(match takeL (m*sz) (dropL off l) with
    | some svs=>(match okL svs,denL H svs with | true,some vs=>K m vs | _,_=>False)
    | none=>False)
   | _=>False)
 | .val (.slice B m _)=>∃ news,RdOld E B (m*sz) news∧K m news
 | .val (.string b)=>sz=1∧K b.size (bytesV b)
 | .own j ver=>cur H j ver fun _ sz' _ m _ xs=>(sz'=sz∧∀ u ∈ xs,u.oneCell'=true)∧K m xs
 | _=>False
def xEqi (K:SV→List SO→Prop) (H:List SO):Bool→Operand→SV→Prop
 | true,.const .nilIface,.val .nilIface=>K .bf H
 | true,.const .nilIface,.val (.iface _ _)=>K .bt H
 | false,.const .nilIface,.val .nilIface=>K .bt H
 | false,.const .nilIface,.val (.iface _ _)=>K .bf H
 | _,_,_=>False
def xapp (E:Env) (H:List SO) (t:TypeId) (sz bytes:Nat) (s x:SV) (K:SV→List SO→Prop):Prop:=match s with
 | .val (.slice none 0 0)=>xsrc E H sz x fun m news=>(m≤maxLen∧m*bytes≤140737488355328)∧∀ A c,K (.own H.length 0) (H++[.own t 0 sz A m c news])
 | .own i ver=>cur H i ver fun t' sz' _ n _ xs=>(match t' == t,sz' == sz with
   | true,true=>xsrc E H sz x fun m news=>(n+m≤maxLen∧(n+m)*bytes≤140737488355328)∧∀ A c,K (.own i (ver+1)) (setn H i (.own t (ver+1) sz A (n+m) c (xs++news)))
   | _,_=>False)
 | .slc i 0 n c=>(match nth H i with
   | some (.cells g t' l)=>(match t' == t,l.length == n*sz,c == n,denL H l with
    | true,true,true,some xs=>xsrc E H sz x fun m news=>(n+m≤maxLen∧(n+m)*bytes≤140737488355328)∧∀ A c,K (.own H.length 0) (setn H i (.gone g)++[.own t 0 sz A (n+m) c (xs++news)])
    | _,_,_,_=>False)
   | _=>False)
 | _=>False
def lowOf (F:List (Nat × SV)):Option Operand→Option Int
 | none=>some 0
 | some o=>(match ev F o with | .val (.int _ a)=>some a | _=>none)
def highOf (F:List (Nat × SV)) (n:Nat):Option Operand→Option Int
 | none=>some n
 | some o=>(match ev F o with | .val (.int _ a)=>some a | _=>none)
def capOk (h:Int) (c:Nat):Option Operand→Prop
 | none=>True
 | some _=>h≤c
def subA (A:Option Addr) (c l sz:Nat):Option Addr:=if c=l then A else A.map (·.add (l*sz))
def subO (off c l sz:Nat):Nat:=if c=l then off else off+l*sz
def lowA (A:Option Addr) (c:Nat) (l:Int) (sz:Nat):Option Operand→Option Addr
 | none=>A
 | some _=>subA A c l.toNat sz
def lowO (off c:Nat) (l:Int) (sz:Nat):Option Operand→Nat
 | none=>off
 | some _=>subO off c l.toNat sz
def eqSV:List CK→List SV→List SV→Option Bool
 | [],[],[]=>some true
 | .int k :: ks,.val (.int j a) :: l,.val (.int i b) :: m=>(match kEq j k,kEq i k,eqSV ks l m with | true,true,some r=>some (a == b && r) | _,_,_=>none)
 | .bool :: ks,x :: l,y :: m=>(match bOf x,bOf y,eqSV ks l m with | some a,some b,some r=>some (a == b && r) | _,_,_=>none)
 | .str :: ks,.val (.string a) :: l,.val (.string b) :: m=>(match eqSV ks l m with | some r=>some (a.toList == b.toList && r) | _=>none)
 | _,_,_=>none
def nilOf (k:NK) (H:List SO) (v:SV):Option Bool:=match k,v with
 | .p,.ptr _ _=>some false
 | .p,.adr A _=>some A.isNone
 | .p,.val (.pointer A)=>some A.isNone
 | .s,.slc _ _ _ _=>some false
 | .s,.val (.slice A _ _)=>some A.isNone
 | .s,.own i ver=>(match nth H i with | some (.own _ ver' _ A _ _ _)=>(match ver' == ver with | true=>some A.isNone | false=>none) | _=>none)
 | .m,.mp _=>some false
 | .m,.val (.map r)=>some r.isNone
 | .f,.fn _ _ _=>some false
 | .f,.val (.func _ _ _)=>some false
 | .f,.val .nilFunc=>some true
 | _,_=>none
def nilV:NK→Value→Option Bool
 | .p,.pointer A=>some A.isNone
 | .s,.slice A _ _=>some A.isNone
 | .m,.map r=>some r.isNone
 | .f,.func _ _ _=>some false
 | .f,.nilFunc=>some true
 | _,_=>none
def nilVal:NK→Value
 | .p=>.pointer none
 | .s=>.slice none 0 0
 | .m=>.map none
 | .f=>.nilFunc
def nkOf:TypeDesc→Option NK
 | .pointer _=>some .p
 | .slice _=>some .s
 | .map _ _=>some .m
 | .func _ _ _=>some .f
 | _=>none
def keyIs:CK→Value→Bool
 | .int k,.int j _=>kEq j k
 | .str,.string _=>true
 | _,_=>false
def keyB:Value→Value→Bool
 | .int _ a,.int _ b=>a == b
 | .string a,.string b=>a == b
 | _,_=>false
def mget:List (Value × Value)→Value→Option Value
 | [],_=>none
 | (q,v) :: l,w=>match keyB w q with | true=>some v | false=>mget l w
def mput:List (Value × Value)→Value→Value→List (Value × Value)
 | [],w,u=>[(w,u)]
 | (q,v) :: l,w,u=>match keyB w q with | true=>(w,u) :: l | false=>(q,v) :: mput l w u
def mrem:List (Value × Value)→Value→List (Value × Value)
 | [],_=>[]
 | (q,v) :: l,w=>match keyB w q with | true=>l | false=>(q,v) :: mrem l w
def lkV (ok:Bool) (v:SV) (b:Bool):SV:=match ok with
 | true=>.tup [v,.val (.bool b)]
 | false=>v
def repN:Nat→List Value→List Value
 | 0,_=>[]
 | c+1,z=>z++repN c z
def fitC:CK→Value→Bool
 | .int k,.int j n=>(match kEq j k with | true=>(Lit.int k n).wf | false=>false)
 | .str,.string s=>Nat.ble s.size maxLen
 | .bool,.bool _=>true
 | _,_=>false
def fitL:List CK→List Value→Bool
 | [],[]=>true
 | c :: cs,v :: vs=>(match fitC c v with | true=>fitL cs vs | false=>false)
 | _,_=>false
def fitV (cs:List CK):Value→Bool
 | .agg vs=>fitL cs vs.toList
 | _=>false
def GetA:List (Value × Value)→Value→Option Value→Prop
 | [],_,r=>r=none
 | (q,v) :: l,w,r=>(w=q∧r=some v)∨(w ≠ q∧GetA l w r)
def PutA:List (Value × Value)→Value→Value→List (Value × Value)→Prop
 | [],w,u,l'=>l'=[(w,u)]
 | (q,v) :: l,w,u,l'=>(w=q∧l'=(w,u) :: l)∨(w ≠ q∧∃ l1,PutA l w u l1∧l'=(q,v) :: l1)
def xk (E:Env) (s:SS) (K:SV→List SO→Prop):XK→Prop
 | .mov x=>K (ev s.F x) s.H
 | .pick c a b=>(match ev s.F c with
   | .bt=>K (ev s.F a) s.H
   | .bf=>K (ev s.F b) s.H
   | .val (.bool c)=>(c=true→K (ev s.F a) s.H)∧(c=false→K (ev s.F b) s.H)
   | _=>False)
 | .arith op k x y=>(match ev s.F x,ev s.F y with
   | .val (.int j a),.val (.int i b)=>(match kEq j k,kEq i k with | true,true=>∃ r,ArOk op k a b r∧K (.val (.int k r)) s.H | _,_=>False)
   | _,_=>False)
 | .div op k x y=>(match ev s.F x,ev s.F y with
   | .val (.int j a),.val (.int i b)=>(match kEq j k,kEq i k with | true,true=>∃ r,DivOk op k a b r∧K (.val (.int k r)) s.H | _,_=>False)
   | _,_=>False)
 | .bits op k x y=>(match ev s.F x,ev s.F y with
   | .val (.int j a),.val (.int i b)=>(match kEq j k,kEq i k with | true,true=>∃ r,BitOk op k a b r∧K (.val (.int k r)) s.H | _,_=>False)
   | _,_=>False)
 | .shift op k x y=>(match ev s.F x,ev s.F y with
   | .val (.int j a),.val (.int _ b)=>(match kEq j k with | true=>∃ r,ShOk op k a b r∧K (.val (.int k r)) s.H | _=>False)
   | _,_=>False)
 | .cmp op k x y=>(match ev s.F x,ev s.F y with
   | .val (.int j a),.val (.int i b)=>(match kEq j k,kEq i k with | true,true=>K (.val (.bool (cmpB op a b))) s.H | _,_=>False)
   | _,_=>False)
 | .eqs op x y=>(match ev s.F x,ev s.F y with
   | .val (.string a),.val (.string b)=>K (.val (.bool (strB op a b))) s.H
   | _,_=>False)
 | .not x=>(match ev s.F x with
   | .bt=>K .bf s.H
   | .bf=>K .bt s.H
   | .val (.bool b)=>K (.val (.bool (!b))) s.H
   | _=>False)
 | .conv k x=>(match ev s.F x with
   | .val (.int _ a)=>∃ r,ConvOk k a r∧K (.val (.int k r)) s.H
   | _=>False)
 | .lenS x=>(match ev s.F x with
   | .val (.slice _ n _)=>K (.val (.int .i64 n)) s.H
   | .slc _ _ n _=>K (.val (.int .i64 n)) s.H
   | .own i ver=>cur s.H i ver fun _ _ _ n _ _=>K (.val (.int .i64 n)) s.H
   | _=>False)
 | .lenT x=>(match ev s.F x with
   | .val (.string b)=>K (.val (.int .i64 b.size)) s.H
   | _=>False)
 | .idx sz x i=>(match ev s.F x,ev s.F i with
   | .val (.slice A n _),.val (.int _ j)=>(0≤j∧j < n∧A.isSome=true)∧K (.adr A (j.toNat*sz)) s.H
   | .slc e off n _,.val (.int _ j)=>(0≤j∧j < n)∧K (.ptr e (off+j.toNat*sz)) s.H
   | .own e ver,.val (.int _ j)=>cur s.H e ver fun _ _ _ n _ _=>(0≤j∧j < n)∧K (.oad e ver (j.toNat*sz)) s.H
   | _,_=>False)
 | .idxA n sz x i=>(match ev s.F x,ev s.F i with
   | .ptr e off,.val (.int _ j)=>(0≤j∧j < n)∧K (.ptr e (off+j.toNat*sz)) s.H
   | .oad e ver off,.val (.int _ j)=>cur s.H e ver fun _ _ _ _ _ _=>(0≤j∧j < n)∧K (.oad e ver (off+j.toNat*sz)) s.H
   | .adr A off,.val (.int _ j)=>(0≤j∧j < n∧A.isSome=true)∧K (.adr A (off+j.toNat*sz)) s.H
   | _,_=>False)
 | .fld off x=>(match ev s.F x with
   | .ptr e o=>K (.ptr e (o+off)) s.H
   | .oad e ver o=>cur s.H e ver fun _ _ _ _ _ _=>K (.oad e ver (o+off)) s.H
   | .adr A o=>(A.isSome=true)∧K (.adr A (o+off)) s.H
   | _=>False)
 | .fldv off size agg x=>(match ev s.F x with
   | .agg l=>(match takeL size (dropL off l) with | some vs=>one agg vs fun v=>K v s.H | none=>False)
   | _=>False)
 | .load cks agg x=>xload E s.H cks agg (ev s.F x) fun v=>K v s.H
 | .store n x v=>xstore s.H n (ev s.F x) (ev s.F v) fun H=>K (.val undef) H
 | .alloc t zero=>∀ g,K (.ptr s.H.length 0) (s.H++[.cells g t (zero.map svc)])
 | .box t n v=>(match cellsOf n (ev s.F v) with
   | some l=>∀ g,K (.ptr s.H.length 0) (s.H++[.cells g t l])
   | none=>False)
 | .build zero parts=>(match xfill s.F (zero.map svc) parts with
   | some l=>K (.agg l) s.H
   | none=>False)
 | .buildS t len sz zero parts=>(match xfillS s.F sz (repL (zero.map svc) len) parts with
   | some l=>∀ g,K (.slc s.H.length 0 len len) (s.H++[.cells g t l])
   | none=>False)
 | .nilc x=>(match ev s.F x with
   | .ptr e o=>K (.ptr e o) s.H
   | .oad e ver o=>cur s.H e ver fun _ _ _ _ _ _=>K (.oad e ver o) s.H
   | .adr A o=>(A.isSome=true)∧K (.adr A o) s.H
   | .fn f a b=>(match f with | .func _=>K (.fn f a b) s.H | .yield _=>K (.fn f a b) s.H | _=>False)
   | .val (.func f a b)=>(match f with | .func _=>K (.val (.func f a b)) s.H | .yield _=>K (.val (.func f a b)) s.H | _=>False)
   | _=>False)
 | .ext x i=>(match ev s.F x with
   | .tup l=>(match nth l i with | some v=>K v s.H | none=>False)
   | _=>False)
 | .mkfn f first captured=>K (.fn f (evL s.F first) (evL s.F captured)) s.H
 | .app t sz bytes d x=>xapp E s.H t sz bytes (ev s.F d) (ev s.F x) K
 | .cat x y=>(match ev s.F x,ev s.F y with
   | .val (.string a),.val (.string b)=>(a.size+b.size≤9223372036854775807)∧K (.val (.string (a++b))) s.H
   | _,_=>False)
 | .sub sz x lo hi=>(match ev s.F x with
   | .val (.slice A n c)=>(match lowOf s.F lo,highOf s.F n hi with
    | some l,some h=>(0≤l∧l≤h∧capOk h c hi)∧K (.val (.slice (lowA A c l sz lo) (h.toNat - l.toNat) (c - l.toNat))) s.H
    | _,_=>False)
   | .slc i off n c=>(match lowOf s.F lo,highOf s.F n hi with
    | some l,some h=>(0≤l∧l≤h∧capOk h c hi)∧K (.slc i (lowO off c l sz lo) (h.toNat - l.toNat) (c - l.toNat)) s.H
    | _,_=>False)
   | .own i ver=>cur s.H i ver fun _ _ A n c _=>(match lowOf s.F lo,highOf s.F n hi with
    | some l,some h=>(0≤l∧l≤h∧capOk h n hi)∧K (.val (.slice (lowA A c l sz lo) (h.toNat - l.toNat) (c - l.toNat))) s.H
    | _,_=>False)
   | _=>False)
 | .subT x lo hi=>(match ev s.F x with
   | .val (.string b)=>(match lowOf s.F lo,highOf s.F b.size hi with
    | some l,some h=>(0≤l∧l≤h∧h≤b.size)∧K (.val (.string (b.extract l.toNat h.toNat))) s.H
    | _,_=>False)
   | _=>False)
 | .ixT x i=>(match ev s.F x,ev s.F i with
   | .val (.string b),.val (.int _ j)=>0≤j∧∃ u:UInt8,b[j.toNat]? = some u∧K (.val (.int .u8 u.toNat)) s.H
   | _,_=>False)
 | .ixA n sz agg x i=>(match ev s.F x,ev s.F i with
   | .agg l,.val (.int _ j)=>(0≤j∧j < n)∧∃ svs,takeL sz (dropL (j.toNat*sz) l)=some svs∧one agg svs fun v=>K v s.H
   | _,_=>False)
 | .eqa neg ks x y=>(match ev s.F x,ev s.F y with
   | .agg l,.agg m=>(match eqSV ks l m with | some b=>K (.val (.bool (match neg with | true=>!b | false=>b))) s.H | none=>False)
   | _,_=>False)
 | .isnil k neg x=>(match nilOf k s.H (ev s.F x) with | some b=>K (.val (.bool (match neg with | true=>!b | false=>b))) s.H | none=>False)
 | .eqif neg _ x y=>xEqi K s.H neg y (ev s.F x)
 | .s2b t x=>(match ev s.F x with
   | .val (.string b)=>∀ g c,K (.slc s.H.length 0 b.size c) (s.H++[.frz g t (bytesV b)])
   | _=>False)
 | .mrk x=>(match ev s.F x with
   | .slc i 0 n c=>(match nth s.H i with
    | some (.cells g t l)=>(match denL s.H l with | some xs=>K (.slc i 0 n c) (setn s.H i (.frz g t xs)) | none=>False)
    | _=>False)
   | _=>False)
 | .lib w l=>(match w,evL s.F l with
   | 0,[.val (.string b),.val (.int .u8 c)]=>K (.val (.int .i64 (Lib.indexByte b.data.toList c.toNat.toUInt8))) s.H
   | _,_=>False)
 | .mkmap=>∀ g,K (.mp s.H.length) (s.H++[.map g []])
 | .lkup c z ok x i=>(match ev s.F x,ev s.F i with
   | .mp e,.val w=>(match nth s.H e,keyIs c w with
    | some (.map _ l),true=>(∀ p ∈ l,keyIs c p.1=true)∧∃ r,mget l w=r∧∃ v,den s.H v=some (r.getD z)∧K (lkV ok v r.isSome) s.H
    | _,_=>False)
   | _,_=>False)
 | .mupd c x i v=>(match ev s.F x,ev s.F i with
   | .mp e,.val w=>(match nth s.H e,keyIs c w,den s.H (ev s.F v) with
    | some (.map g l),true,some u=>(∀ p ∈ l,keyIs c p.1=true)∧K (.val undef) (setn s.H e (.map g (mput l w u)))
    | _,_,_=>False)
   | _,_=>False)
 | .mkslc t sz bytes z l c=>(match ev s.F l,ev s.F c with
   | .val (.int _ n),.val (.int _ m)=>(0≤n∧n≤m∧(bytes:Int)*m≤281474976710656∧m≤9223372036854775807)∧∀ g,K (.own s.H.length 0) (s.H++[.own t 0 sz (some ⟨g,0,none⟩) n.toNat m.toNat (repN n.toNat z)])
   | _,_=>False)
 | .str0 x v=>(match ev s.F x,ev s.F v with
   | .ptr _ _,.agg []=>K (.val undef) s.H
   | _,_=>False)
 | .lkupA cs z ok x i=>(match ev s.F x,den s.H (ev s.F i) with
   | .mp e,some w=>(match nth s.H e with
    | some (.map _ l)=>(fitV cs w=true∧∀ p ∈ l,fitV cs p.1=true)∧∃ r,GetA l w r∧∃ v,den s.H v=some (r.getD z)∧K (lkV ok v r.isSome) s.H
    | _=>False)
   | _,_=>False)
 | .mupdA cs x i v=>(match ev s.F x,den s.H (ev s.F i),den s.H (ev s.F v) with
   | .mp e,some w,some u=>(match nth s.H e with
    | some (.map g l)=>(fitV cs w=true∧∀ p ∈ l,fitV cs p.1=true)∧∃ l',PutA l w u l'∧K (.val undef) (setn s.H e (.map g l'))
    | _=>False)
   | _,_,_=>False)
 | _=>False
def cvS (P:Program) (fs:Array Field) (parts:List (Nat × Operand)):Option (List (Nat × Nat × Operand)) :=
 parts.foldr (fun p acc=>match fs[p.1]?,acc with
  | some f,some r=>(match szT P f.type with | some n=>some ((f.offset,n,p.2) :: r) | none=>none)
  | _,_=>none) (some [])
def eqFs (f:TypeId→Option (List CK)):Nat→List Field→Option (List CK)
 | _,[]=>some []
 | off, x :: l => (match x.name != "_", x.offset == off, f x.type with
  | true,true,some ks=>(match eqFs f (off+ks.length) l with | some r=>some (ks++r) | none=>none)
  | _,_,_=>none)
def eqKs (P:Program):Nat→TypeId→Option (List CK)
 | 0,_=>none
 | d+1,t=>(match P.underlying t with
  | some (.int k)=>some [.int k]
  | some .bool=>some [.bool]
  | some .string=>some [.str]
  | some (.array n e)=>(match eqKs P d e with | some l=>(match szT P e with | some m=>if l.length=m then some ((List.replicate n l).flatten) else none | none=>none) | none=>none)
  | some (.struct fs)=>(match P.stoodInHeld t with
   | true=>none
   | false=>(match fs.toList.all (fun f=>match eqKs P d f.type,szT P f.type with | some l,some m=>l.length == m | _,_=>false) with
    | true=>eqFs (eqKs P d) 0 fs.toList
    | false=>none))
  | _=>none)
def cmpEqa (P:Program) (neg:Bool) (t:TypeId) (x y:Operand):Option XK:=match eqKs P 6 t,P.eqGuardType P.depth t with
 | some ks,false=>some (.eqa neg ks x y)
 | _,_=>none
def isNilC:NK→Operand→Bool
 | .p,.const (.pointer none)=>true
 | .s,.const (.slice none 0 0)=>true
 | .m,.const (.map none)=>true
 | .f,.const .nilFunc=>true
 | _,_=>false
def cmpNil (td:TypeDesc) (neg:Bool) (x y:Operand):Option XK:=match nkOf td with
 | some k=>(match isNilC k y,isNilC k x with
  | true,_=>some (.isnil k neg x)
  | false,true=>some (.isnil k neg y)
  | _,_=>none)
 | none=>none
def cmpBin (P:Program) (op:BinOp) (t:TypeId) (x y:Operand):Option XK:=match P.underlying t with
 | some (.int k)=>(match op with
  | .add | .sub | .mul=>some (.arith op k x y)
  | .quo | .rem=>some (.div op k x y)
  | .and | .or | .xor | .andNot=>some (.bits op k x y)
  | .shl | .shr=>some (.shift op k x y)
  | .eql | .neq | .lss | .leq | .gtr | .geq=>some (.cmp op k x y))
 | some .bool=>(match op with | .eql=>some (.eqb false x y) | .neq=>some (.eqb true x y) | _=>none)
 | some .string=>(match op with | .add=>some (.cat x y) | _=>(match zj5o op with | true=>some (.eqs op x y) | false=>none))
 | some (.struct _) | some (.array _ _)=>(match op with | .eql=>cmpEqa P false t x y | .neq=>cmpEqa P true t x y | _=>none)
 | some td=>(match op with | .eql=>cmpNil td false x y | .neq=>cmpNil td true x y | _=>none)
 | none=>none
def cmpUn (op:UnOp) (x:Operand):Option XK:=match op with | .not=>some (.not x) | _=>none
def cmpConv (P:Program) (src dst:TypeId) (x:Operand):Option XK:=match P.underlying src,P.underlying dst with
 | some (.int _),some (.int k)=>some (.conv k x)
 | some (.slice e),some .string=>(match P.underlying e with | some (.int .u8)=>some (.b2s x) | _=>none)
 | _,_=>none
def cmpSub (P:Program) (t:TypeId) (x:Operand) (lo hi mx:Option Operand):Option XK:=match mx,P.underlying t with
 | none,some (.slice e)=>(match szT P e with | some n=>some (.sub n x lo hi) | none=>none)
 | none,some .string=>some (.subT x lo hi)
 | _,_=>none
def cmpIxv (P:Program) (t:TypeId) (x i:Operand):Option XK:=match P.underlying t with
 | some (.array n e)=>(match szT P e,P.underlying e with | some m,some _=>some (.ixA n m (isAggT P e) x i) | _,_=>none)
 | some .string=>some (.ixT x i)
 | _=>none
def cmpIdx (P:Program) (t:TypeId) (x i:Operand):Option XK:=match P.underlying t with
 | some (.slice e)=>(match szT P e with | some n=>some (.idx n x i) | none=>none)
 | some (.array n e)=>(match szT P e with | some m=>(if 1 < n then some (.idxA n m x i) else none) | none=>none)
 | _=>none
def cmpFld (P:Program) (t:TypeId) (x:Operand) (f:Nat):Option XK:=match P.underlying t with
 | some (.struct fs)=>(match fs[f]? with
  | some fd=>(match szT P fd.type with | some (_+1)=>some (.fld fd.offset x) | _=>none)
  | none=>none)
 | _=>none
def cmpFldv (P:Program) (t:TypeId) (x:Operand) (f:Nat):Option XK:=match P.underlying t with
 | some (.struct fs)=>(match fs[f]? with
  | some fd=>(match szT P fd.type,P.underlying fd.type with | some n,some _=>some (.fldv fd.offset n (isAggT P fd.type) x) | _,_=>none)
  | none=>none)
 | _=>none
def cmpLoad (P:Program) (t:TypeId) (x:Operand):Option XK:=match ckOf P 20 t,P.underlying t,szT P t with
 | some l,some _,some (n+1)=>if l.length=n+1 then some (.load l (isAggT P t) x) else none
 | _,_,_=>none
def zj4u (P:Program) (t:TypeId) (x v:Operand):Option XK:=match szT P t with | some (n+1)=>some (.store (n+1) x v) | _=>none
def zj4v (P:Program) (t:TypeId):Option XK:=match zeroT P t with | some z=>some (.alloc t z) | none=>none
def cmpBox (P:Program) (t:TypeId) (v:Operand):Option XK:=match szT P t with | some n=>some (.box t n v) | none=>none
def zj4w (P:Program) (t:TypeId) (parts:Array (Nat × Operand)):Option XK:=match P.underlying t,zeroT P t with
 | some (.struct fs),some z=>(match fs.all (fun f=>(szT P f.type).isSome),cvS P fs parts.toList with | true,some l=>some (.build z l) | _,_=>none)
 | some (.array _ e),some z=>(match szT P e with | some n=>some (.build z (parts.toList.map fun p=>(p.1*n,n,p.2))) | none=>none)
 | _,_=>none
def zj3d (P:Program) (t:TypeId) (len:Nat) (parts:Array (Nat × Operand)):Option XK:=match P.underlying t with
 | some (.slice e)=>(match szT P e,zeroT P e with
  | some n,some z=>if z.length=n∧0 < n∧len*n≤2 ^ 24 then some (.buildS e len n z parts.toList) else none
  | _,_=>none)
 | _=>none
def bytesT (P:Program) (t:TypeId):Option Nat:=(P.info? t).map (·.bytes)
def cmpApp (P:Program) (s x:Operand) (t t':TypeId):Option XK:=match P.underlying t,P.underlying t' with
 | some (.slice e),some (.slice _)=>(match szT P e,bytesT P e,zeroT P e with
  | some (n+1),some b,some z=>(match z.length == n+1,t == t' with | true,true=>some (.app e (n+1) b s x) | _,_=>none)
  | _,_,_=>none)
 | some (.slice e),some .string=>(match szT P e,bytesT P e,zeroT P e with
  | some (n+1),some b,some z=>(match z.length == n+1 with | true=>some (.app e (n+1) b s x) | _=>none)
  | _,_,_=>none)
 | _,_=>none
def cmpCall (P:Program) (c:Call):Option XK:=match c.callee,c.args.toList,c.argTypes.toList with
 | .builtin .append,[s,x],[t,t']=>cmpApp P s x t t'
 | .builtin .len,[x],[t]=>(match P.underlying t with
  | some (.slice _)=>some (.lenS x)
  | some .string=>some (.lenT x)
  | some (.array n _)=>some (.lenA n x)
  | _=>none)
 | _,_,_=>none
def cmpK0 (P:Program) (op:Op):Option XK:=match op with
 | .move x=>some (.mov x)
 | .assign x=>some (.mov x)
 | .pick c a b=>some (.pick c a b)
 | .binOp op t x y _=>cmpBin P op t x y
 | .unOp op _ x=>cmpUn op x
 | .convert src dst x=>cmpConv P src dst x
 | .indexAddr t x i=>cmpIdx P t x i
 | .fieldAddr t x f=>cmpFld P t x f
 | .field t x f=>cmpFldv P t x f
 | .load t x=>cmpLoad P t x
 | .store t x v=>zj4u P t x v
 | .alloc t=>zj4v P t
 | .box t v=>cmpBox P t v
 | .build t parts=>zj4w P t parts
 | .buildSlice t len parts=>zj3d P t len parts
 | .nilCheck x=>some (.nilc x)
 | .extract x i=>some (.ext x i)
 | .makeFunc f first captured=>some (.mkfn f first.toList captured.toList)
 | .call c=>cmpCall P c
 | .slice t x lo hi mx=>cmpSub P t x lo hi mx
 | .index t x i=>cmpIxv P t x i
 | _=>none
def zeroV (P:Program) (t:TypeId):Option Value:=match P.info? t with | some i=>i.zero | none=>none
def keyK (P:Program) (t:TypeId):Option CK:=match P.underlying t with | some (.int k)=>some (.int k) | some .string=>some .str | _=>none
def flatK (P:Program) (t:TypeId):Option CK:=match P.underlying t with | some (.int k)=>some (.int k) | some .string=>some .str | some .bool=>some .bool | _=>none
def flatFs (P:Program):List Field→Nat→Option (List CK)
 | [],_=>some []
 | f :: fs,i=>match Nat.beq f.offset i,Nat.beq (P.cellsOf f.type) 1,flatK P f.type,flatFs P fs (i+1) with
  | true,true,some c,some l=>some (c :: l)
  | _,_,_,_=>none
def keyA (P:Program) (t:TypeId):Option (List CK):=match P.underlying t with
 | some (.struct fs)=>(match flatFs P fs.toList 0,P.keyTypeAt 3 t,P.tiled 3 t,P.keyType t,Nat.blt 0 P.types.size with
  | some l,true,true,true,true=>(match Nat.beq (P.cellsOf t) l.length with | true=>some l | false=>none)
  | _,_,_,_,_=>none)
 | _=>none
def libOf (P:Program) (f:FuncId):Option Nat:=match P.funcs[f]? with
 | some fn=>(match fn.body with
  | some _=>none
  | none=>match fn.origin with
   | "" => (match fn.name with
    | "internal/bytealg.IndexByteString" => some 0
    | "internal/bytealg.CountString" => some 1
    | "internal/bytealg.IndexString" => some 2
    | _=>none)
   | _=>none)
 | none=>none
def zj16 (P:Program) (c:Call):Option XK:=match c.callee with
 | .builtin .len=>(match c.args.toList,c.argTypes.toList with
  | [x],[t]=>(match P.underlying t with | some (.map _ _)=>some (.lenM x) | _=>none)
  | _,_=>none)
 | .builtin .copy=>(match c.args.toList,c.argTypes.toList with
  | [d,x],[t,t']=>(match P.underlying t,P.underlying t' with
   | some (.slice e),some (.slice _)=>(match szT P e with | some (n+1)=>some (.cpy (n+1) false d x) | _=>none)
   | some (.slice e),some .string=>(match szT P e with | some 1=>some (.cpy 1 true d x) | _=>none)
   | _,_=>none)
  | _,_=>none)
 | .builtin .delete=>(match c.args.toList,c.argTypes.toList with
  | [x,k],[t,_]=>(match P.underlying t with
   | some (.map q _)=>(match keyK P q with | some c=>some (.mdel c x k) | none=>none)
   | _=>none)
  | _,_=>none)
 | .builtin .max=>(match c.args.toList,c.argTypes.toList with
  | [x,y],[t,_]=>(match P.underlying t with | some (.int k)=>some (.mm true k x y) | _=>none)
  | _,_=>none)
 | .builtin .min=>(match c.args.toList,c.argTypes.toList with
  | [x,y],[t,_]=>(match P.underlying t with | some (.int k)=>some (.mm false k x y) | _=>none)
  | _,_=>none)
 | .value (.func f)=>(match libOf P f with | some w=>some (.lib w c.args.toList) | none=>none)
 | .builtin .clear=>(match c.args.toList,c.argTypes.toList with
  | [x],[t]=>(match P.underlying t with
   | some (.slice e)=>(match szT P e,zeroT P e with
    | some (n+1),some z=>(match z.length == n+1 with | true=>some (.clr (n+1) z x) | false=>none)
    | _,_=>none)
   | _=>none)
  | _,_=>none)
 | _=>none
def cmpK1 (P:Program) (op:Op):Option XK:=match op with
 | .unOp .neg t x=>(match P.underlying t with | some (.int k)=>some (.neg k x) | _=>none)
 | .binOp .eql t x y _=>(match P.underlying t with | some (.interface _)=>some (.eqif false t x y) | _=>none)
 | .binOp .neq t x y _=>(match P.underlying t with | some (.interface _)=>some (.eqif true t x y) | _=>none)
 | .convert src dst x=>(match P.underlying src,P.underlying dst with
  | some .string,some (.slice e)=>(match P.underlying e,szT P e with | some (.int .u8),some 1=>some (.s2b e x) | _,_=>none)
  | some (.slice _),some (.slice e)=>(match src == dst,P.underlying e with | true,some (.int .u8)=>some (.mrk x) | _,_=>none)
  | _,_=>none)
 | .slice t x lo hi none=>(match P.underlying t with
  | some (.pointer arr)=>(match P.underlying arr with | some (.array n e)=>(match szT P e with | some m=>some (.asub n m x lo hi) | none=>none) | _=>none)
  | _=>none)
 | .makeMap _ none=>some .mkmap
 | .store t x v=>(match szT P t with | some 0=>some (.str0 x v) | _=>none)
 | .lookup t x i ok=>(match P.underlying t with
  | some (.map k e)=>(match keyK P k,zeroV P e with
   | some c,some z=>some (.lkup c z ok x i)
   | none,some z=>(match keyA P k with | some cs=>some (.lkupA cs z ok x i) | none=>none)
   | _,_=>none)
  | _=>none)
 | .mapUpdate t m k v=>(match P.underlying t with
  | some (.map q _)=>(match keyK P q with | some c=>some (.mupd c m k v) | none=>(match keyA P q with | some cs=>some (.mupdA cs m k v) | none=>none))
  | _=>none)
 | .insert t m k v=>(match P.underlying t with
  | some (.map q _)=>(match keyK P q with | some c=>some (.mupd c m k v) | none=>none)
  | _=>none)
 | .makeSlice t l c=>(match P.underlying t with
  | some (.slice e)=>(match szT P e,bytesT P e,zeroT P e with
   | some (n+1),some b,some z=>(match z.length == n+1 with | true=>some (.mkslc e (n+1) b z l c) | false=>none)
   | _,_,_=>none)
  | _=>none)
 | .makeInterface t x=>(match P.underlying t with | some (.interface _) | none=>none | some _=>some (.mkif t x))
 | .range t x=>(match P.underlying t with | some .string=>some (.rngS x) | some (.map _ _)=>some (.rngM x) | _=>none)
 | .next x true=>some (.nxtS x)
 | .next x false=>some (.nxtM x)
 | .entry x=>some (.entM x)
 | .call c=>zj16 P c
 | _=>none
def isNew:XK→Bool
 | .neg .. | .mm .. | .mkmap | .lkup .. | .mupd .. | .mdel .. | .lenM .. | .mkslc .. | .cpy .. | .mkif .. | .eqif .. | .s2b .. | .asub .. | .rngS .. | .nxtS .. | .lib .. | .clr .. | .mrk .. | .lkupA .. | .mupdA .. | .str0 .. | .rngM .. | .nxtM .. | .entM .. | .dead=>true
 | _=>false
theorem cmpK1_new {P:Program} {op:Op} {x:XK} (h:cmpK1 P op=some x):isNew x=true:=by
 unfold cmpK1 zj16 at h
 repeat' (split at h)
 all_goals first | (injection h with h; subst h; rfl) | cases h
def fnOk (P:Program) (f:FuncId):Bool:=match P.funcs[f]? with
 | some fn => !(fn.name == "runtime.NumGoroutine") && fn.body.isSome
 | none=>false
def deadOp (P:Program) (op:Op):Bool:=match op with
 | .call c=>(match c.callee with
  | .value (.func f)=>!(fnOk P f)
  | .value _=>false
  | _=>true)
 | .panic _ | .typeAssert .. | .range .. | .next .. | .entry _ | .slice .. | .convert .. | .binOp .. | .unOp .. | .makeMap .. | .makeChan .. | .lookup .. | .load .. | .sliceToArrayPointer ..=>true
 | _=>false
def cmpK (P:Program) (op:Op):Option XK:=match cmpK0 P op with
 | some x=>some x
 | none=>match cmpK1 P op with
  | some x=>some x
  | none=>match deadOp P op with
   | true=>some .dead
   | false=>none
end Go.Sx
