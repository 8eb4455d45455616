/- The engine, part 10: the same run, in a shape that 'dsimp' works through in one go (no branch is looked into before it is taken). -/
import Derived.Attr
import Derived.Test.YtgghmmjoplddbaaGreatDoorSxRule
set_option linter.unusedSimpArgs false
set_option linter.unusedVariables false
set_option linter.unnecessarySimpa false
namespace Go.Sx
abbrev KT:=SV→List SO→Prop
def lkB (b:Bool) (v:SV) (F:List (Nat × SV)) (d:Nat):SV:=match b with
 | true=>v
 | false=>lk F d
theorem zq6d (v:SV) (F:List (Nat × SV)) (d:Nat):lkB true v F d=v:=rfl
theorem zq6e (v:SV) (F:List (Nat × SV)) (d:Nat):lkB false v F d=lk F d:=rfl
theorem zq6f (d:Nat):lk [] d=.unk:=rfl
theorem zq6g (e:Nat) (v:SV) (F:List (Nat × SV)) (d:Nat):lk ((e,v) :: F) d=lkB (e == d) v F d:=rfl
def and2 {α:Type} (b c:Bool) (o:Option α):Option α:=match b,c with | true,true=>o | _,_=>none
def y2 (k:IntKind):SV→SV→Option (Int × Int)
 | .val (.int j a),.val (.int i b)=>and2 (kEq j k) (kEq i k) (some (a,b))
 | _,_=>none
def y1s (k:IntKind):SV→SV→Option (Int × Int)
 | .val (.int j a),.val (.int _ b)=>and2 (kEq j k) true (some (a,b))
 | _,_=>none
def y1:SV→Option Int
 | .val (.int _ a)=>some a
 | _=>none
def yst:SV→SV→Option (ByteArray × ByteArray)
 | .val (.string a),.val (.string b)=>some (a,b)
 | _,_=>none
structure OwnE where
 t:TypeId
 sz:Nat
 A:Option Addr
 n:Nat
 c:Nat
 xs:List Value
def curB:Bool→OwnE→Option OwnE
 | true,e=>some e
 | false,_=>none
def curE (ver:Nat):Option SO→Option OwnE
 | some (.own t ver' sz A n c xs)=>curB (ver' == ver) ⟨t,sz,A,n,c,xs⟩
 | _=>none
def cellsB (l:List SV):Bool→Bool→Option (List SV)
 | true,true=>some l
 | _,_=>none
def yCells (n:Nat):SV→Option (List SV)
 | .agg l=>cellsB l (l.length == n) (okL l)
 | v=>cellsB [v] (n == 1) (okCell v)
def yPick (K:KT) (H:List SO) (a b:SV):SV→Prop
 | .bt=>K a H
 | .bf=>K b H
 | .val (.bool c)=>(c=true→K a H)∧(c=false→K b H)
 | _=>False
def yArith (K:KT) (H:List SO) (op:BinOp) (k:IntKind):Option (Int × Int)→Prop
 | some (a,b)=>∃ r,ArOk op k a b r∧K (.val (.int k r)) H
 | none=>False
def yDiv (K:KT) (H:List SO) (op:BinOp) (k:IntKind):Option (Int × Int)→Prop
 | some (a,b)=>∃ r,DivOk op k a b r∧K (.val (.int k r)) H
 | none=>False
def yBits (K:KT) (H:List SO) (op:BinOp) (k:IntKind):Option (Int × Int)→Prop
 | some (a,b)=>∃ r,BitOk op k a b r∧K (.val (.int k r)) H
 | none=>False
def yShift (K:KT) (H:List SO) (op:BinOp) (k:IntKind):Option (Int × Int)→Prop
 | some (a,b)=>∃ r,ShOk op k a b r∧K (.val (.int k r)) H
 | none=>False
def yCmp (K:KT) (H:List SO) (op:BinOp):Option (Int × Int)→Prop
 | some (a,b)=>K (.val (.bool (cmpB op a b))) H
 | none=>False
def yEqs (K:KT) (H:List SO) (op:BinOp):Option (ByteArray × ByteArray)→Prop
 | some (a,b)=>K (.val (.bool (strB op a b))) H
 | none=>False
def yNot (K:KT) (H:List SO):SV→Prop
 | .bt=>K .bf H
 | .bf=>K .bt H
 | .val (.bool b)=>K (.val (.bool (!b))) H
 | _=>False
def yConv (K:KT) (H:List SO) (k:IntKind):Option Int→Prop
 | some a=>∃ r,ConvOk k a r∧K (.val (.int k r)) H
 | none=>False
def yLenO (K:KT) (H:List SO):Option OwnE→Prop
 | some e=>K (.val (.int .i64 e.n)) H
 | none=>False
def yLenS (K:KT) (H:List SO):SV→Prop
 | .val (.slice _ n _)=>K (.val (.int .i64 n)) H
 | .slc _ _ n _=>K (.val (.int .i64 n)) H
 | .own i ver=>yLenO K H (curE ver (nth H i))
 | _=>False
def yLenT (K:KT) (H:List SO):SV→Prop
 | .val (.string b)=>K (.val (.int .i64 b.size)) H
 | _=>False
def yIdxO (K:KT) (H:List SO) (e ver sz:Nat) (j:Int):Option OwnE→Prop
 | some o=>(0≤j∧j < o.n)∧K (.oad e ver (j.toNat*sz)) H
 | none=>False
def yIdx (K:KT) (H:List SO) (sz:Nat):SV→Option Int→Prop
 | .val (.slice A n _),some j=>(0≤j∧j < n∧A.isSome=true)∧K (.adr A (j.toNat*sz)) H
 | .slc e off n _,some j=>(0≤j∧j < n)∧K (.ptr e (off+j.toNat*sz)) H
 | .own e ver,some j=>yIdxO K H e ver sz j (curE ver (nth H e))
 | _,_=>False
def yIdxAO (K:KT) (H:List SO) (n:Nat) (j:Int) (v:SV):Option OwnE→Prop
 | some _=>(0≤j∧j < n)∧K v H
 | none=>False
def yIdxA (K:KT) (H:List SO) (n sz:Nat):SV→Option Int→Prop
 | .ptr e off,some j=>(0≤j∧j < n)∧K (.ptr e (off+j.toNat*sz)) H
 | .oad e ver off,some j=>yIdxAO K H n j (.oad e ver (off+j.toNat*sz)) (curE ver (nth H e))
 | .adr A off,some j=>(0≤j∧j < n∧A.isSome=true)∧K (.adr A (off+j.toNat*sz)) H
 | _,_=>False
def yKO (K:KT) (H:List SO) (v:SV):Option OwnE→Prop
 | some _=>K v H
 | none=>False
def yFld (K:KT) (H:List SO) (off:Nat):SV→Prop
 | .ptr e o=>K (.ptr e (o+off)) H
 | .oad e ver o=>yKO K H (.oad e ver (o+off)) (curE ver (nth H e))
 | .adr A o=>(A.isSome=true)∧K (.adr A (o+off)) H
 | _=>False
def yOne (K:KT) (H:List SO):Bool→List SV→Prop
 | true,l=>K (.agg l) H
 | false,[v]=>K v H
 | false,_=>False
def yOneO (K:KT) (H:List SO) (agg:Bool):Option (List SV)→Prop
 | some l=>yOne K H agg l
 | none=>False
def yFldv (K:KT) (H:List SO) (off size:Nat) (agg:Bool):SV→Prop
 | .agg l=>yOneO K H agg (takeL size (dropL off l))
 | _=>False
def yLoad (K:KT) (H:List SO) (agg:Bool) (F:Nat→Value→Prop):List CK→Nat→List SV→Prop
 | [],_,acc=>yOne K H agg acc
 | .int k :: l,off,acc=>∃ n,F off (.int k n)∧yLoad K H agg F l (off+1) (acc++[.val (.int k n)])
 | .bool :: l,off,acc=>∃ b,F off (.bool b)∧yLoad K H agg F l (off+1) (acc++[.val (.bool b)])
 | .str :: l,off,acc=>∃ b,F off (.string b)∧yLoad K H agg F l (off+1) (acc++[.val (.string b)])
 | .ptr :: l,off,acc=>∃ p,F off (.pointer p)∧yLoad K H agg F l (off+1) (acc++[.adr p 0])
 | .slc :: l,off,acc=>∃ a n c,F off (.slice a n c)∧yLoad K H agg F l (off+1) (acc++[.val (.slice a n c)])
 | .map :: l,off,acc=>∃ m,F off (.map m)∧yLoad K H agg F l (off+1) (acc++[.val (.map m)])
 | .fn :: l,off,acc=>∃ v,F off v∧∃ h:v.oneCell'=true,yLoad K H agg F l (off+1) (acc++[.opq v h])
 | .other :: l,off,acc=>∃ v,F off v∧∃ h:v.oneCell'=true,yLoad K H agg F l (off+1) (acc++[.opq v h])
def yLoadE (K:KT) (H:List SO) (agg:Bool) (cks:List CK) (off:Nat):Option SO→Prop
 | some (.cells _ _ l)=>yOneO K H agg (takeL cks.length (dropL off l))
 | some (.row _ _ xs)=>yLoad K H agg (fun j v=>xs[j]? = some v) cks off []
 | some (.frz _ _ xs)=>yLoad K H agg (fun j v=>xs[j]? = some v) cks off []
 | _=>False
def yLoadO (K:KT) (H:List SO) (agg:Bool) (cks:List CK) (off:Nat):Option OwnE→Prop
 | some e=>yLoad K H agg (fun j v=>e.xs[j]? = some v) cks off []
 | none=>False
def yLoadP (E:Env) (K:KT) (H:List SO) (cks:List CK) (agg:Bool):SV→Prop
 | .ptr i off=>yLoadE K H agg cks off (nth H i)
 | .adr A off=>yLoad K H agg (fun j v=>CellAt E A j v) cks off []
 | .oad i ver off=>yLoadO K H agg cks off (curE ver (nth H i))
 | _=>False
def yStC (K:KT) (H:List SO) (i g:Nat) (t:TypeId) (c:List SV) (off:Nat) (l:List SV):Option (List SV)→Prop
 | some _=>K (.val undef) (setn H i (.cells g t (splice c off l)))
 | none=>False
def yStR (K:KT) (H:List SO) (i g:Nat) (t:TypeId) (xs:List Value) (n off:Nat):Option (List Value)→Prop
 | some us=>(off+n≤xs.length)∧K (.val undef) (setn H i (.row g t (splice xs off us)))
 | none=>False
def yStE (K:KT) (H:List SO) (n i off:Nat) (l:List SV):Option SO→Prop
 | some (.cells g t c)=>yStC K H i g t c off l (takeL n (dropL off c))
 | some (.row g t xs)=>yStR K H i g t xs n off (denL H l)
 | _=>False
def yStO2 (K:KT) (H:List SO) (n i ver off:Nat) (e:OwnE):Option (List Value)→Prop
 | some us=>(off+n≤e.xs.length)∧K (.val undef) (setn H i (.own e.t ver e.sz e.A e.n e.c (splice e.xs off us)))
 | none=>False
def yStO (K:KT) (H:List SO) (n i ver off:Nat) (l:List SV):Option OwnE→Prop
 | some e=>yStO2 K H n i ver off e (denL H l)
 | none=>False
def yStore (K:KT) (H:List SO) (n:Nat):SV→Option (List SV)→Prop
 | .ptr i off,some l=>yStE K H n i off l (nth H i)
 | .oad i ver off,some l=>yStO K H n i ver off l (curE ver (nth H i))
 | _,_=>False
def yBox (K:KT) (H:List SO) (t:TypeId):Option (List SV)→Prop
 | some l=>∀ g,K (.ptr H.length 0) (H++[.cells g t l])
 | none=>False
def yFillB (l:List SV) (off:Nat):Option (List SV)→Option (List SV)→Nat→Option (List SV)
 | some c,some _,_+1=>some (splice l off c)
 | _,_,_=>none
def yFill (F:List (Nat × SV)):Option (List SV)→List (Nat × Nat × Operand)→Option (List SV)
 | some l,(off,n,x) :: r=>yFill F (yFillB l off (yCells n (ev F x)) (takeL n (dropL off l)) n) r
 | some l,[]=>some l
 | none,_=>none
def yFillS (F:List (Nat × SV)) (sz:Nat):Option (List SV)→List (Nat × Operand)→Option (List SV)
 | some l,(i,x) :: r=>yFillS F sz (yFillB l (i*sz) (yCells sz (ev F x)) (takeL sz (dropL (i*sz) l)) sz) r
 | some l,[]=>some l
 | none,_=>none
def yBuild (K:KT) (H:List SO):Option (List SV)→Prop
 | some l=>K (.agg l) H
 | none=>False
def yBuildS (K:KT) (H:List SO) (t:TypeId) (len:Nat):Option (List SV)→Prop
 | some l=>∀ g,K (.slc H.length 0 len len) (H++[.cells g t l])
 | none=>False
def yNilF (K:KT) (H:List SO) (v:SV):Fn→Prop
 | .func _=>K v H
 | .yield _=>K v H
 | _=>False
def yNil (K:KT) (H:List SO):SV→Prop
 | .ptr e o=>K (.ptr e o) H
 | .oad e ver o=>yKO K H (.oad e ver o) (curE ver (nth H e))
 | .adr A o=>(A.isSome=true)∧K (.adr A o) H
 | .fn f a b=>yNilF K H (.fn f a b) f
 | .val (.func f a b)=>yNilF K H (.val (.func f a b)) f
 | _=>False
def yExtO (K:KT) (H:List SO):Option SV→Prop
 | some v=>K v H
 | none=>False
def yExt (K:KT) (H:List SO) (i:Nat):SV→Prop
 | .tup l=>yExtO K H (nth l i)
 | _=>False
inductive AppM where
 | nl
 | own (i ver n:Nat) (xs:List Value)
 | lit (i g n:Nat) (xs:List Value)
def yApp3 (K:KT) (H:List SO) (t:TypeId) (sz bytes:Nat) (m:Nat) (news:List Value):AppM→Prop
 | .nl=>(m≤maxLen∧m*bytes≤140737488355328)∧∀ A c,K (.own H.length 0) (H++[.own t 0 sz A m c news])
 | .own i ver n xs=>(n+m≤maxLen∧(n+m)*bytes≤140737488355328)∧∀ A c,K (.own i (ver+1)) (setn H i (.own t (ver+1) sz A (n+m) c (xs++news)))
 | .lit i g n xs=>(n+m≤maxLen∧(n+m)*bytes≤140737488355328)∧∀ A c,K (.own H.length 0) (setn H i (.gone g)++[.own t 0 sz A (n+m) c (xs++news)])
def ySrcC (H:List SO) (off k:Nat):Option SO→Option (List SV)
 | some (.cells _ _ l)=>takeL k (dropL off l)
 | _=>none
def ySrcD (H:List SO):Option (List SV)→Option (List Value)
 | some svs=>and2 (okL svs) true (denL H svs)
 | none=>none
def ySrcK (K:KT) (H:List SO) (t:TypeId) (sz bytes m:Nat) (md:AppM):Option (List Value)→Prop
 | some vs=>yApp3 K H t sz bytes m vs md
 | none=>False
def ySrcO (K:KT) (H:List SO) (t:TypeId) (sz bytes:Nat) (md:AppM):Option OwnE→Prop
 | some e=>(e.sz=sz∧∀ u ∈ e.xs,u.oneCell'=true)∧yApp3 K H t sz bytes e.n e.xs md
 | none=>False
def ySrc (E:Env) (K:KT) (H:List SO) (t:TypeId) (sz bytes:Nat) (md:AppM):SV→Prop
 | .slc j off m _=>ySrcK K H t sz bytes m md (ySrcD H (ySrcC H off (m*sz) (nth H j)))
 | .val (.slice B m _)=>∃ news,RdOld E B (m*sz) news∧yApp3 K H t sz bytes m news md
 | .val (.string b)=>sz=1∧yApp3 K H t sz bytes b.size (bytesV b) md
 | .own j ver=>ySrcO K H t sz bytes md (curE ver (nth H j))
 | _=>False
def yAppM (E:Env) (K:KT) (H:List SO) (t:TypeId) (sz bytes:Nat) (x:SV):Option AppM→Prop
 | some md=>ySrc E K H t sz bytes md x
 | none=>False
def appO (t:TypeId) (sz i ver:Nat):Option OwnE→Option AppM
 | some e=>and2 (e.t == t) (e.sz == sz) (some (.own i ver e.n e.xs))
 | none=>none
def appL2 (i g n:Nat):Bool→Bool→Bool→Option (List Value)→Option AppM
 | true,true,true,some xs=>some (.lit i g n xs)
 | _,_,_,_=>none
def appL (H:List SO) (t:TypeId) (sz i n c:Nat):Option SO→Option AppM
 | some (.cells g t' l)=>appL2 i g n (t' == t) (l.length == n*sz) (c == n) (denL H l)
 | _=>none
def yMd (H:List SO) (t:TypeId) (sz:Nat):SV→Option AppM
 | .val (.slice none 0 0)=>some .nl
 | .own i ver=>appO t sz i ver (curE ver (nth H i))
 | .slc i 0 n c=>appL H t sz i n c (nth H i)
 | _=>none
def yCat (K:KT) (H:List SO):Option (ByteArray × ByteArray)→Prop
 | some (a,b)=>(a.size+b.size≤9223372036854775807)∧K (.val (.string (a++b))) H
 | none=>False
def hiS:Option Int→Option (Option Int)
 | some h=>some (some h)
 | none=>none
def hiI (F:List (Nat × SV)):Option Operand→Option (Option Int)
 | none=>some none
 | some o=>hiS (y1 (ev F o))
def loI (F:List (Nat × SV)):Option Operand→Option Int
 | none=>some 0
 | some o=>y1 (ev F o)
def ySubO (K:KT) (H:List SO) (sz:Nat) (lo:Option Operand) (l:Int):Option (Option Int)→Option OwnE→Prop
 | some none,some e=>(0≤l∧l≤e.n)∧K (.val (.slice (lowA e.A e.c l sz lo) (e.n - l.toNat) (e.c - l.toNat))) H
 | some (some h),some e=>(0≤l∧l≤h∧h≤e.n)∧K (.val (.slice (lowA e.A e.c l sz lo) (h.toNat - l.toNat) (e.c - l.toNat))) H
 | _,_=>False
def ySub (K:KT) (H:List SO) (sz:Nat) (lo:Option Operand):SV→Option Int→Option (Option Int)→Prop
 | .val (.slice A n c),some l,some none=>(0≤l∧l≤n)∧K (.val (.slice (lowA A c l sz lo) (n - l.toNat) (c - l.toNat))) H
 | .val (.slice A _ c),some l,some (some h)=>(0≤l∧l≤h∧h≤c)∧K (.val (.slice (lowA A c l sz lo) (h.toNat - l.toNat) (c - l.toNat))) H
 | .slc i off n c,some l,some none=>(0≤l∧l≤n)∧K (.slc i (lowO off c l sz lo) (n - l.toNat) (c - l.toNat)) H
 | .slc i off _ c,some l,some (some h)=>(0≤l∧l≤h∧h≤c)∧K (.slc i (lowO off c l sz lo) (h.toNat - l.toNat) (c - l.toNat)) H
 | .own i ver,some l,hi=>ySubO K H sz lo l hi (curE ver (nth H i))
 | _,_,_=>False
def ySubT (K:KT) (H:List SO):SV→Option Int→Option (Option Int)→Prop
 | .val (.string b),some l,some none=>(0≤l∧l≤b.size)∧K (.val (.string (b.extract l.toNat b.size))) H
 | .val (.string b),some l,some (some h)=>(0≤l∧l≤h∧h≤b.size)∧K (.val (.string (b.extract l.toNat h.toNat))) H
 | _,_,_=>False
def yIxT (K:KT) (H:List SO):SV→Option Int→Prop
 | .val (.string b),some j=>0≤j∧∃ u:UInt8,b[j.toNat]? = some u∧K (.val (.int .u8 u.toNat)) H
 | _,_=>False
def yIxA (K:KT) (H:List SO) (n sz:Nat):Bool→SV→Option Int→Prop
 | true,.agg l,some j=>(0≤j∧j < n)∧∃ svs,takeL sz (dropL (j.toNat*sz) l)=some svs∧K (.agg svs) H
 | false,.agg (.val (.int k a) :: l),some j=>(0≤j∧j < n)∧∃ m,takeL sz (dropL (j.toNat*sz) (.val (.int k a) :: l))=some [.val (.int k m)]∧K (.val (.int k m)) H
 | _,_,_=>False
def eqO (ks:List CK):SV→SV→Option Bool
 | .agg l,.agg m=>eqSV ks l m
 | _,_=>none
def yEqa (K:KT) (H:List SO):Bool→Option Bool→Prop
 | true,some b=>K (.val (.bool (!b))) H
 | false,some b=>K (.val (.bool b)) H
 | _,_=>False
def nilO:Option OwnE→Option Bool
 | some e=>some e.A.isNone
 | none=>none
def yNilOf (H:List SO):NK→SV→Option Bool
 | .p,.ptr _ _=>some false
 | .p,.adr A _=>some A.isNone
 | .p,.val (.pointer A)=>some A.isNone
 | .s,.slc _ _ _ _=>some false
 | .s,.val (.slice A _ _)=>some A.isNone
 | .s,.own i ver=>nilO (curE ver (nth H i))
 | .m,.mp _=>some false
 | .m,.val (.map r)=>some r.isNone
 | .f,.fn _ _ _=>some false
 | .f,.val (.func _ _ _)=>some false
 | .f,.val .nilFunc=>some true
 | _,_=>none
def yEqi (K:KT) (H:List SO):Bool→Operand→SV→Prop
 | true,.const .nilIface,.val .nilIface=>K .bf H
 | true,.const .nilIface,.val (.iface _ _)=>K .bt H
 | false,.const .nilIface,.val .nilIface=>K .bt H
 | false,.const .nilIface,.val (.iface _ _)=>K .bf H
 | _,_,_=>False
def yS2b (K:KT) (H:List SO) (t:TypeId):SV→Prop
 | .val (.string b)=>∀ g c,K (.slc H.length 0 b.size c) (H++[.frz g t (bytesV b)])
 | _=>False
def yMrkO (K:KT) (H:List SO) (i n c:Nat) (g:Nat) (t:TypeId):Option (List Value)→Prop
 | some xs=>K (.slc i 0 n c) (setn H i (.frz g t xs))
 | none=>False
def yMrkE (K:KT) (H:List SO) (i n c:Nat):Option SO→Prop
 | some (.cells g t l)=>yMrkO K H i n c g t (denL H l)
 | _=>False
def yMrk (K:KT) (H:List SO):SV→Prop
 | .slc i 0 n c=>yMrkE K H i n c (nth H i)
 | _=>False
def yLib (K:KT) (H:List SO):Nat→List SV→Prop
 | 0,[.val (.string b),.val (.int .u8 c)]=>K (.val (.int .i64 (Lib.indexByte b.data.toList c.toNat.toUInt8))) H
 | _,_=>False
def yLkV (K:KT) (H:List SO) (v:SV) (b:Bool):Bool→Prop
 | true=>K (.tup [v,.val (.bool b)]) H
 | false=>K v H
def yLkE (K:KT) (H:List SO) (c:CK) (z:Value) (ok:Bool) (w:Value):Option SO→Bool→Prop
 | some (.map g l),true=>(∀ p ∈ l,keyIs c p.1=true)∧∃ r,mget l w=r∧∃ v,den H v=some (r.getD z)∧yLkV K H v r.isSome ok
 | _,_=>False
def yLk (K:KT) (H:List SO) (c:CK) (z:Value) (ok:Bool):SV→SV→Prop
 | .mp e,.val w=>yLkE K H c z ok w (nth H e) (keyIs c w)
 | _,_=>False
def yMuE (K:KT) (H:List SO) (c:CK) (e:Nat) (w:Value):Option SO→Bool→Option Value→Prop
 | some (.map g l),true,some u=>(∀ p ∈ l,keyIs c p.1=true)∧K (.val undef) (setn H e (.map g (mput l w u)))
 | _,_,_=>False
def yMu (K:KT) (H:List SO) (c:CK) (u:Option Value):SV→SV→Prop
 | .mp e,.val w=>yMuE K H c e w (nth H e) (keyIs c w) u
 | _,_=>False
def yS0 (K:SV→List SO→Prop) (H:List SO):SV→SV→Prop
 | .ptr _ _,.agg []=>K (.val undef) H
 | _,_=>False
def yLaE (K:KT) (H:List SO) (cs:List CK) (z:Value) (ok:Bool) (w:Value):Option SO→Prop
 | some (.map g l)=>(fitV cs w=true∧∀ p ∈ l,fitV cs p.1=true)∧∃ r,GetA l w r∧∃ v,den H v=some (r.getD z)∧yLkV K H v r.isSome ok
 | _=>False
def yLa (K:KT) (H:List SO) (cs:List CK) (z:Value) (ok:Bool):SV→Option Value→Prop
 | .mp e,some w=>yLaE K H cs z ok w (nth H e)
 | _,_=>False
def yMaE (K:KT) (H:List SO) (cs:List CK) (e:Nat) (w u:Value):Option SO→Prop
 | some (.map g l)=>(fitV cs w=true∧∀ p ∈ l,fitV cs p.1=true)∧∃ l',PutA l w u l'∧K (.val undef) (setn H e (.map g l'))
 | _=>False
def yMa (K:KT) (H:List SO) (cs:List CK):SV→Option Value→Option Value→Prop
 | .mp e,some w,some u=>yMaE K H cs e w u (nth H e)
 | _,_,_=>False
def yMks (K:KT) (H:List SO) (t:TypeId) (sz bytes:Nat) (z:List Value):Option Int→Option Int→Prop
 | some n,some m=>(0≤n∧n≤m∧(bytes:Int)*m≤281474976710656∧m≤9223372036854775807)∧∀ g,K (.own H.length 0) (H++[.own t 0 sz (some ⟨g,0,none⟩) n.toNat m.toNat (repN n.toNat z)])
 | _,_=>False
theorem zq00 (k) (j) (a):keyIs (.int k) (.int j a)=kEq j k:=rfl
theorem zq01 (b):keyIs .str (.string b)=true:=rfl
def yk (E:Env) (F:List (Nat × SV)) (H:List SO) (K:KT):XK→Prop
 | .mov x=>K (ev F x) H
 | .pick c a b=>yPick K H (ev F a) (ev F b) (ev F c)
 | .arith op k x y=>yArith K H op k (y2 k (ev F x) (ev F y))
 | .div op k x y=>yDiv K H op k (y2 k (ev F x) (ev F y))
 | .bits op k x y=>yBits K H op k (y2 k (ev F x) (ev F y))
 | .shift op k x y=>yShift K H op k (y1s k (ev F x) (ev F y))
 | .cmp op k x y=>yCmp K H op (y2 k (ev F x) (ev F y))
 | .eqs op x y=>yEqs K H op (yst (ev F x) (ev F y))
 | .not x=>yNot K H (ev F x)
 | .conv k x=>yConv K H k (y1 (ev F x))
 | .lenS x=>yLenS K H (ev F x)
 | .lenT x=>yLenT K H (ev F x)
 | .idx sz x i=>yIdx K H sz (ev F x) (y1 (ev F i))
 | .idxA n sz x i=>yIdxA K H n sz (ev F x) (y1 (ev F i))
 | .fld off x=>yFld K H off (ev F x)
 | .fldv off size agg x=>yFldv K H off size agg (ev F x)
 | .load cks agg x=>yLoadP E K H cks agg (ev F x)
 | .store n x v=>yStore K H n (ev F x) (yCells n (ev F v))
 | .alloc t zero=>∀ g,K (.ptr H.length 0) (H++[.cells g t (zero.map svc)])
 | .box t n v=>yBox K H t (yCells n (ev F v))
 | .build zero parts=>yBuild K H (yFill F (some (zero.map svc)) parts)
 | .buildS t len sz zero parts=>yBuildS K H t len (yFillS F sz (some (repL (zero.map svc) len)) parts)
 | .nilc x=>yNil K H (ev F x)
 | .ext x i=>yExt K H i (ev F x)
 | .mkfn f first captured=>K (.fn f (evL F first) (evL F captured)) H
 | .app t sz bytes d x=>yAppM E K H t sz bytes (ev F x) (yMd H t sz (ev F d))
 | .cat x y=>yCat K H (yst (ev F x) (ev F y))
 | .sub sz x lo hi=>ySub K H sz lo (ev F x) (loI F lo) (hiI F hi)
 | .subT x lo hi=>ySubT K H (ev F x) (loI F lo) (hiI F hi)
 | .ixT x i=>yIxT K H (ev F x) (y1 (ev F i))
 | .ixA n sz agg x i=>yIxA K H n sz agg (ev F x) (y1 (ev F i))
 | .eqa neg ks x y=>yEqa K H neg (eqO ks (ev F x) (ev F y))
 | .isnil k neg x=>yEqa K H neg (yNilOf H k (ev F x))
 | .eqif neg _ x y=>yEqi K H neg y (ev F x)
 | .s2b t x=>yS2b K H t (ev F x)
 | .mrk x=>yMrk K H (ev F x)
 | .lib w l=>yLib K H w (evL F l)
 | .mkmap=>∀ g,K (.mp H.length) (H++[.map g []])
 | .lkup c z ok x i=>yLk K H c z ok (ev F x) (ev F i)
 | .lkupA cs z ok x i=>yLa K H cs z ok (ev F x) (den H (ev F i))
 | .mupdA cs x i v=>yMa K H cs (ev F x) (den H (ev F i)) (den H (ev F v))
 | .mupd c x i v=>yMu K H c (den H (ev F v)) (ev F x) (ev F i)
 | .mkslc t sz bytes z l c=>yMks K H t sz bytes z (y1 (ev F l)) (y1 (ev F c))
 | .str0 x v=>yS0 K H (ev F x) (ev F v)
 | _=>False
def yGd (c:Nat) (F:List (Nat × SV)) (Kr Ks:List (Nat × SV)→Prop):Bool→SV→Prop
 | true,.bt=>Kr F
 | false,.bt=>Ks F
 | true,.bf=>Ks F
 | false,.bf=>Kr F
 | true,.val (.bool b)=>(b=true→Kr ((c,.bt) :: F))∧(b=false→Ks ((c,.bf) :: F))
 | false,.val (.bool b)=>(b=true→Ks ((c,.bt) :: F))∧(b=false→Kr ((c,.bf) :: F))
 | _,.val (.tuple _)=>Ks F
 | _,_=>False
def yIfC (c:Operand) (F:List (Nat × SV)) (Ka Kb:List (Nat × SV)→Prop):SV→Prop
 | .bt=>Ka F
 | .bf=>Kb F
 | .val (.bool b)=>(b=true→Ka (tellB F c .bt))∧(b=false→Kb (tellB F c .bf))
 | _=>False
def yPop (Kx:List KI→Prop) (N:Prop):Option (List KI)→Prop
 | some k=>Kx k
 | none=>N
theorem zq02 (c) (F) (Kr) (Ks):yGd c F Kr Ks true (.val undef)=(Ks F):=rfl
theorem zq03 (c) (F) (Kr) (Ks):yGd c F Kr Ks false (.val undef)=(Ks F):=rfl
theorem zq04 (k) (j) (a) (i) (b):y2 k (.val (.int j a)) (.val (.int i b))=(and2 (kEq j k) (kEq i k) (some (a,b))):=rfl
theorem zq05 (k) (j) (a) (u1) (b):y1s k (.val (.int j a)) (.val (.int u1 b))=(and2 (kEq j k) true (some (a,b))):=rfl
theorem zq06 (u1) (a):y1 (.val (.int u1 a))=(some a):=rfl
theorem zq07 (a) (b):yst (.val (.string a)) (.val (.string b))=(some (a,b)):=rfl
theorem zq08 (e):curB true e=(some e):=rfl
theorem zq09 (ver) (t) (ver') (sz) (A) (n) (c) (xs):curE ver (some (.own t ver' sz A n c xs))=(curB (ver' == ver) ⟨t,sz,A,n,c,xs⟩):=rfl
theorem zq0a (l):cellsB l true true=(some l):=rfl
theorem zq0b (K) (H) (a) (b):yPick K H a b .bt=(K a H):=rfl
theorem zq0c (K) (H) (a) (b):yPick K H a b .bf=(K b H):=rfl
theorem zq0e (K) (H) (op) (k) (a) (b):yArith K H op k (some (a,b))=(∃ r,ArOk op k a b r∧K (.val (.int k r)) H):=rfl
theorem zq0f (K) (H) (op) (k) (a) (b):yDiv K H op k (some (a,b))=(∃ r,DivOk op k a b r∧K (.val (.int k r)) H):=rfl
theorem zq0g (K) (H) (op) (k) (a) (b):yBits K H op k (some (a,b))=(∃ r,BitOk op k a b r∧K (.val (.int k r)) H):=rfl
theorem zq0h (K) (H) (op) (k) (a) (b):yShift K H op k (some (a,b))=(∃ r,ShOk op k a b r∧K (.val (.int k r)) H):=rfl
theorem zq0i (K) (H) (op) (a) (b):yCmp K H op (some (a,b))=(K (.val (.bool (cmpB op a b))) H):=rfl
theorem zq0l (K) (H) (op) (a) (b):yEqs K H op (some (a,b))=(K (.val (.bool (strB op a b))) H):=rfl
theorem zq0m (K) (H):yNot K H .bt=(K .bf H):=rfl
theorem zq0n (K) (H):yNot K H .bf=(K .bt H):=rfl
theorem zq0o (K) (H) (b):yNot K H (.val (.bool b))=(K (.val (.bool (!b))) H):=rfl
theorem zq0p (K) (H) (k) (a):yConv K H k (some a)=(∃ r,ConvOk k a r∧K (.val (.int k r)) H):=rfl
theorem zq0q (K) (H) (e):yLenO K H (some e)=(K (.val (.int .i64 e.n)) H):=rfl
theorem zq0r (K) (H) (u1) (n) (u2):yLenS K H (.val (.slice u1 n u2))=(K (.val (.int .i64 n)) H):=rfl
theorem zq0s (K) (H) (u1) (u2) (n) (u3):yLenS K H (.slc u1 u2 n u3)=(K (.val (.int .i64 n)) H):=rfl
theorem zq0t (K) (H) (i) (ver):yLenS K H (.own i ver)=(yLenO K H (curE ver (nth H i))):=rfl
theorem zq0u (K) (H) (b):yLenT K H (.val (.string b))=(K (.val (.int .i64 b.size)) H):=rfl
theorem zq0v (K) (H) (e) (ver) (sz) (j) (o):yIdxO K H e ver sz j (some o)=((0≤j∧j < o.n)∧K (.oad e ver (j.toNat*sz)) H):=rfl
theorem zq0w (K) (H) (sz) (A) (n) (u1) (j):yIdx K H sz (.val (.slice A n u1)) (some j)=((0≤j∧j < n∧A.isSome=true)∧K (.adr A (j.toNat*sz)) H):=rfl
theorem zq0x (K) (H) (sz) (e) (off) (n) (u1) (j):yIdx K H sz (.slc e off n u1) (some j)=((0≤j∧j < n)∧K (.ptr e (off+j.toNat*sz)) H):=rfl
theorem zq0y (K) (H) (sz) (e) (ver) (j):yIdx K H sz (.own e ver) (some j)=(yIdxO K H e ver sz j (curE ver (nth H e))):=rfl
theorem zq10 (K) (H) (n) (sz) (e) (off) (j):yIdxA K H n sz (.ptr e off) (some j)=((0≤j∧j < n)∧K (.ptr e (off+j.toNat*sz)) H):=rfl
theorem zq12 (K) (H) (n) (sz) (A) (off) (j):yIdxA K H n sz (.adr A off) (some j)=((0≤j∧j < n∧A.isSome=true)∧K (.adr A (off+j.toNat*sz)) H):=rfl
theorem zq13 (K) (H) (v) (u1):yKO K H v (some u1)=(K v H):=rfl
theorem zq14 (K) (H) (off) (e) (o):yFld K H off (.ptr e o)=(K (.ptr e (o+off)) H):=rfl
theorem zq15 (K) (H) (off) (e) (ver) (o):yFld K H off (.oad e ver o)=(yKO K H (.oad e ver (o+off)) (curE ver (nth H e))):=rfl
theorem zq16 (K) (H) (off) (A) (o):yFld K H off (.adr A o)=((A.isSome=true)∧K (.adr A (o+off)) H):=rfl
theorem zq17 (K) (H) (l):yOne K H true l=(K (.agg l) H):=rfl
theorem zq18 (K) (H) (v):yOne K H false [v]=(K v H):=rfl
theorem zq19 (K) (H) (agg) (l):yOneO K H agg (some l)=(yOne K H agg l):=rfl
theorem zq1a (K) (H) (off) (size) (agg) (l):yFldv K H off size agg (.agg l)=(yOneO K H agg (takeL size (dropL off l))):=rfl
theorem zq1b (K) (H) (agg) (F) (u1) (acc):yLoad K H agg F [] u1 acc=(yOne K H agg acc):=rfl
theorem zq1c (K) (H) (agg) (F) (k) (l) (off) (acc):yLoad K H agg F (.int k :: l) off acc=(∃ n,F off (.int k n)∧yLoad K H agg F l (off+1) (acc++[.val (.int k n)])):=rfl
theorem zq1d (K) (H) (agg) (F) (l) (off) (acc):yLoad K H agg F (.bool :: l) off acc=(∃ b,F off (.bool b)∧yLoad K H agg F l (off+1) (acc++[.val (.bool b)])):=rfl
theorem zq1e (K) (H) (agg) (F) (l) (off) (acc):yLoad K H agg F (.str :: l) off acc=(∃ b,F off (.string b)∧yLoad K H agg F l (off+1) (acc++[.val (.string b)])):=rfl
theorem zq1g (K) (H) (agg) (F) (l) (off) (acc):yLoad K H agg F (.slc :: l) off acc=(∃ a n c,F off (.slice a n c)∧yLoad K H agg F l (off+1) (acc++[.val (.slice a n c)])):=rfl
theorem zq1i (K) (H) (agg) (F) (l) (off) (acc):yLoad K H agg F (.fn :: l) off acc=(∃ v,F off v∧∃ h:v.oneCell'=true,yLoad K H agg F l (off+1) (acc++[.opq v h])):=rfl
theorem zq1k (K) (H) (agg) (cks) (off) (u1) (u2) (l):yLoadE K H agg cks off (some (.cells u1 u2 l))=(yOneO K H agg (takeL cks.length (dropL off l))):=rfl
theorem zq1l (K) (H) (agg) (cks) (off) (u1) (u2) (xs):yLoadE K H agg cks off (some (.row u1 u2 xs))=(yLoad K H agg (fun j v=>xs[j]? = some v) cks off []):=rfl
theorem zq1m (K) (H) (agg) (cks) (off) (u1) (u2) (xs):yLoadE K H agg cks off (some (.frz u1 u2 xs))=(yLoad K H agg (fun j v=>xs[j]? = some v) cks off []):=rfl
theorem zq1n (K) (H) (agg) (cks) (off) (e):yLoadO K H agg cks off (some e)=(yLoad K H agg (fun j v=>e.xs[j]? = some v) cks off []):=rfl
theorem zq1o (E) (K) (H) (cks) (agg) (i) (off):yLoadP E K H cks agg (.ptr i off)=(yLoadE K H agg cks off (nth H i)):=rfl
theorem zq1p (E) (K) (H) (cks) (agg) (A) (off):yLoadP E K H cks agg (.adr A off)=(yLoad K H agg (fun j v=>CellAt E A j v) cks off []):=rfl
theorem zq1q (E) (K) (H) (cks) (agg) (i) (ver) (off):yLoadP E K H cks agg (.oad i ver off)=(yLoadO K H agg cks off (curE ver (nth H i))):=rfl
theorem zq1r (K) (H) (i) (g) (t) (c) (off) (l) (u1):yStC K H i g t c off l (some u1)=(K (.val undef) (setn H i (.cells g t (splice c off l)))):=rfl
theorem zq1s (K) (H) (i) (g) (t) (xs) (n) (off) (us):yStR K H i g t xs n off (some us)=((off+n≤xs.length)∧K (.val undef) (setn H i (.row g t (splice xs off us)))):=rfl
theorem zq1t (K) (H) (n) (i) (off) (l) (g) (t) (c):yStE K H n i off l (some (.cells g t c))=(yStC K H i g t c off l (takeL n (dropL off c))):=rfl
theorem zq1u (K) (H) (n) (i) (off) (l) (g) (t) (xs):yStE K H n i off l (some (.row g t xs))=(yStR K H i g t xs n off (denL H l)):=rfl
theorem zq1v (K) (H) (n) (i) (ver) (off) (e) (us):yStO2 K H n i ver off e (some us)=((off+n≤e.xs.length)∧K (.val undef) (setn H i (.own e.t ver e.sz e.A e.n e.c (splice e.xs off us)))):=rfl
theorem zq1w (K) (H) (n) (i) (ver) (off) (l) (e):yStO K H n i ver off l (some e)=(yStO2 K H n i ver off e (denL H l)):=rfl
theorem zq1x (K) (H) (n) (i) (off) (l):yStore K H n (.ptr i off) (some l)=(yStE K H n i off l (nth H i)):=rfl
theorem zq1y (K) (H) (n) (i) (ver) (off) (l):yStore K H n (.oad i ver off) (some l)=(yStO K H n i ver off l (curE ver (nth H i))):=rfl
theorem zq1z (K) (H) (t) (l):yBox K H t (some l)=(∀ g,K (.ptr H.length 0) (H++[.cells g t l])):=rfl
theorem zq20 (l) (off) (c) (u1) (u2):yFillB l off (some c) (some u1) (u2+1)=(some (splice l off c)):=rfl
theorem zq21 (F) (l) (off) (n) (x) (r):yFill F (some l) ((off,n,x) :: r)=(yFill F (yFillB l off (yCells n (ev F x)) (takeL n (dropL off l)) n) r):=rfl
theorem zq22 (F) (l):yFill F (some l) []=(some l):=rfl
theorem zq23 (F) (sz) (l) (i) (x) (r):yFillS F sz (some l) ((i,x) :: r)=(yFillS F sz (yFillB l (i*sz) (yCells sz (ev F x)) (takeL sz (dropL (i*sz) l)) sz) r):=rfl
theorem zq24 (F) (sz) (l):yFillS F sz (some l) []=(some l):=rfl
theorem zq25 (K) (H) (l):yBuild K H (some l)=(K (.agg l) H):=rfl
theorem zq26 (K) (H) (t) (len) (l):yBuildS K H t len (some l)=(∀ g,K (.slc H.length 0 len len) (H++[.cells g t l])):=rfl
theorem zq29 (K) (H) (e) (o):yNil K H (.ptr e o)=(K (.ptr e o) H):=rfl
theorem zq2b (K) (H) (A) (o):yNil K H (.adr A o)=((A.isSome=true)∧K (.adr A o) H):=rfl
theorem zq2e (K) (H) (v):yExtO K H (some v)=(K v H):=rfl
theorem zq2f (K) (H) (i) (l):yExt K H i (.tup l)=(yExtO K H (nth l i)):=rfl
theorem zq2h (K) (H) (t) (sz) (bytes) (m) (news) (i) (ver) (n) (xs):yApp3 K H t sz bytes m news (.own i ver n xs)=((n+m≤maxLen∧(n+m)*bytes≤140737488355328)∧∀ A c,K (.own i (ver+1)) (setn H i (.own t (ver+1) sz A (n+m) c (xs++news)))):=rfl
theorem zq2i (K) (H) (t) (sz) (bytes) (m) (news) (i) (g) (n) (xs):yApp3 K H t sz bytes m news (.lit i g n xs)=((n+m≤maxLen∧(n+m)*bytes≤140737488355328)∧∀ A c,K (.own H.length 0) (setn H i (.gone g)++[.own t 0 sz A (n+m) c (xs++news)])):=rfl
theorem zq2j (H) (off) (k) (u1) (u2) (l):ySrcC H off k (some (.cells u1 u2 l))=(takeL k (dropL off l)):=rfl
theorem zq2k (H) (svs):ySrcD H (some svs)=(and2 (okL svs) true (denL H svs)):=rfl
theorem zq2l (K) (H) (t) (sz) (bytes) (m) (md) (vs):ySrcK K H t sz bytes m md (some vs)=(yApp3 K H t sz bytes m vs md):=rfl
theorem zq2n (E) (K) (H) (t) (sz) (bytes) (md) (j) (off) (m) (u1):ySrc E K H t sz bytes md (.slc j off m u1)=(ySrcK K H t sz bytes m md (ySrcD H (ySrcC H off (m*sz) (nth H j)))):=rfl
theorem zq2o (E) (K) (H) (t) (sz) (bytes) (md) (B) (m) (u1):ySrc E K H t sz bytes md (.val (.slice B m u1))=(∃ news,RdOld E B (m*sz) news∧yApp3 K H t sz bytes m news md):=rfl
theorem zq2r (E) (K) (H) (t) (sz) (bytes) (x) (md):yAppM E K H t sz bytes x (some md)=(ySrc E K H t sz bytes md x):=rfl
theorem zq2s (t) (sz) (i) (ver) (e):appO t sz i ver (some e)=(and2 (e.t == t) (e.sz == sz) (some (.own i ver e.n e.xs))):=rfl
theorem zq2t (i) (g) (n) (xs):appL2 i g n true true true (some xs)=(some (.lit i g n xs)):=rfl
theorem zq2u (H) (t) (sz) (i) (n) (c) (g) (t') (l):appL H t sz i n c (some (.cells g t' l))=(appL2 i g n (t' == t) (l.length == n*sz) (c == n) (denL H l)):=rfl
theorem zq2w (H) (t) (sz) (i) (ver):yMd H t sz (.own i ver)=(appO t sz i ver (curE ver (nth H i))):=rfl
theorem zq2x (H) (t) (sz) (i) (n) (c):yMd H t sz (.slc i 0 n c)=(appL H t sz i n c (nth H i)):=rfl
theorem zq2y (K) (H) (a) (b):yCat K H (some (a,b))=((a.size+b.size≤9223372036854775807)∧K (.val (.string (a++b))) H):=rfl
theorem zq37 (h):hiS (some h)=(some (some h)):=rfl
theorem zq38 (F):hiI F none=(some none):=rfl
theorem zq39 (F) (o):hiI F (some o)=(hiS (y1 (ev F o))):=rfl
theorem zq3a (F):loI F none=(some 0):=rfl
theorem zq3b (F) (o):loI F (some o)=(y1 (ev F o)):=rfl
theorem zq3c (K) (H) (sz) (lo) (l) (e):ySubO K H sz lo l (some none) (some e)=((0≤l∧l≤e.n)∧K (.val (.slice (lowA e.A e.c l sz lo) (e.n - l.toNat) (e.c - l.toNat))) H):=rfl
theorem zq3e (K) (H) (sz) (lo) (A) (n) (c) (l):ySub K H sz lo (.val (.slice A n c)) (some l) (some none)=((0≤l∧l≤n)∧K (.val (.slice (lowA A c l sz lo) (n - l.toNat) (c - l.toNat))) H):=rfl
theorem zq3g (K) (H) (sz) (lo) (i) (off) (n) (c) (l):ySub K H sz lo (.slc i off n c) (some l) (some none)=((0≤l∧l≤n)∧K (.slc i (lowO off c l sz lo) (n - l.toNat) (c - l.toNat)) H):=rfl
theorem zq3h (K) (H) (sz) (lo) (i) (off) (u1) (c) (l) (h):ySub K H sz lo (.slc i off u1 c) (some l) (some (some h))=((0≤l∧l≤h∧h≤c)∧K (.slc i (lowO off c l sz lo) (h.toNat - l.toNat) (c - l.toNat)) H):=rfl
theorem zq3i (K) (H) (sz) (lo) (i) (ver) (l) (hi):ySub K H sz lo (.own i ver) (some l) hi=(ySubO K H sz lo l hi (curE ver (nth H i))):=rfl
theorem zq3j (K) (H) (b) (l):ySubT K H (.val (.string b)) (some l) (some none)=((0≤l∧l≤b.size)∧K (.val (.string (b.extract l.toNat b.size))) H):=rfl
theorem zq3k (K) (H) (b) (l) (h):ySubT K H (.val (.string b)) (some l) (some (some h))=((0≤l∧l≤h∧h≤b.size)∧K (.val (.string (b.extract l.toNat h.toNat))) H):=rfl
theorem zq3l (K) (H) (b) (j):yIxT K H (.val (.string b)) (some j)=(0≤j∧∃ u:UInt8,b[j.toNat]? = some u∧K (.val (.int .u8 u.toNat)) H):=rfl
theorem zq3m (K) (H) (n) (sz) (l) (j):yIxA K H n sz true (.agg l) (some j)=((0≤j∧j < n)∧∃ svs,takeL sz (dropL (j.toNat*sz) l)=some svs∧K (.agg svs) H):=rfl
theorem zq3n (K) (H) (n) (sz) (k) (a) (l) (j):yIxA K H n sz false (.agg (.val (.int k a) :: l)) (some j)=((0≤j∧j < n)∧∃ m,takeL sz (dropL (j.toNat*sz) (.val (.int k a) :: l))=some [.val (.int k m)]∧K (.val (.int k m)) H):=rfl
theorem zq3o (ks) (l) (m):eqO ks (.agg l) (.agg m)=(eqSV ks l m):=rfl
theorem zq3p (K) (H) (b):yEqa K H true (some b)=(K (.val (.bool (!b))) H):=rfl
theorem zq3q (K) (H) (b):yEqa K H false (some b)=(K (.val (.bool b)) H):=rfl
theorem zq3w (H) (A) (u1) (u2):yNilOf H .s (.val (.slice A u1 u2))=(some A.isNone):=rfl
theorem zq44 (K) (H):yEqi K H true (.const .nilIface) (.val .nilIface)=(K .bf H):=rfl
theorem zq45 (K) (H) (u1) (u2):yEqi K H true (.const .nilIface) (.val (.iface u1 u2))=(K .bt H):=rfl
theorem zq48 (K) (H) (t) (b):yS2b K H t (.val (.string b))=(∀ g c,K (.slc H.length 0 b.size c) (H++[.frz g t (bytesV b)])):=rfl
theorem zq49 (K) (H) (i) (n) (c) (g) (t) (xs):yMrkO K H i n c g t (some xs)=(K (.slc i 0 n c) (setn H i (.frz g t xs))):=rfl
theorem zq4a (K) (H) (i) (n) (c) (g) (t) (l):yMrkE K H i n c (some (.cells g t l))=(yMrkO K H i n c g t (denL H l)):=rfl
theorem zq4b (K) (H) (i) (n) (c):yMrk K H (.slc i 0 n c)=(yMrkE K H i n c (nth H i)):=rfl
theorem zq4d (K) (H) (b) (c):yLib K H 0 [.val (.string b),.val (.int .u8 c)]=(K (.val (.int .i64 (Lib.indexByte b.data.toList c.toNat.toUInt8))) H):=rfl
theorem zq4e (K) (H) (v) (b):yLkV K H v b true=(K (.tup [v,.val (.bool b)]) H):=rfl
theorem zq4f (K) (H) (v) (b):yLkV K H v b false=(K v H):=rfl
theorem zq4g (K) (H) (c) (z) (ok) (w) (g) (l):yLkE K H c z ok w (some (.map g l)) true=((∀ p ∈ l,keyIs c p.1=true)∧∃ r,mget l w=r∧∃ v,den H v=some (r.getD z)∧yLkV K H v r.isSome ok):=rfl
theorem zq4h (K) (H) (c) (z) (ok) (e) (w):yLk K H c z ok (.mp e) (.val w)=(yLkE K H c z ok w (nth H e) (keyIs c w)):=rfl
theorem zq4i (K) (H) (c) (e) (w) (g) (l) (u):yMuE K H c e w (some (.map g l)) true (some u)=((∀ p ∈ l,keyIs c p.1=true)∧K (.val undef) (setn H e (.map g (mput l w u)))):=rfl
theorem zq4j (K) (H) (c) (u) (e) (w):yMu K H c u (.mp e) (.val w)=(yMuE K H c e w (nth H e) (keyIs c w) u):=rfl
theorem zq4o (K) (H) (u1) (u2):yS0 K H (.ptr u1 u2) (.agg [])=(K (.val undef) H):=rfl
theorem zq4p (K) (H) (cs) (z) (ok) (w) (g) (l):yLaE K H cs z ok w (some (.map g l))=((fitV cs w=true∧∀ p ∈ l,fitV cs p.1=true)∧∃ r,GetA l w r∧∃ v,den H v=some (r.getD z)∧yLkV K H v r.isSome ok):=rfl
theorem zq4q (K) (H) (cs) (z) (ok) (e) (w):yLa K H cs z ok (.mp e) (some w)=(yLaE K H cs z ok w (nth H e)):=rfl
theorem zq4r (K) (H) (cs) (e) (w) (u) (g) (l):yMaE K H cs e w u (some (.map g l))=((fitV cs w=true∧∀ p ∈ l,fitV cs p.1=true)∧∃ l',PutA l w u l'∧K (.val undef) (setn H e (.map g l'))):=rfl
theorem zq4s (K) (H) (cs) (e) (w) (u):yMa K H cs (.mp e) (some w) (some u)=(yMaE K H cs e w u (nth H e)):=rfl
theorem zq4t (K) (H) (t) (sz) (bytes) (z) (n) (m):yMks K H t sz bytes z (some n) (some m)=((0≤n∧n≤m∧(bytes:Int)*m≤281474976710656∧m≤9223372036854775807)∧∀ g,K (.own H.length 0) (H++[.own t 0 sz (some ⟨g,0,none⟩) n.toNat m.toNat (repN n.toNat z)])):=rfl
theorem zq4u (E) (F) (H) (K) (x):yk E F H K (.mov x)=(K (ev F x) H):=rfl
theorem zq4v (E) (F) (H) (K) (c) (a) (b):yk E F H K (.pick c a b)=(yPick K H (ev F a) (ev F b) (ev F c)):=rfl
theorem zq4w (E) (F) (H) (K) (op) (k) (x) (y):yk E F H K (.arith op k x y)=(yArith K H op k (y2 k (ev F x) (ev F y))):=rfl
theorem zq4x (E) (F) (H) (K) (op) (k) (x) (y):yk E F H K (.div op k x y)=(yDiv K H op k (y2 k (ev F x) (ev F y))):=rfl
theorem zq4y (E) (F) (H) (K) (op) (k) (x) (y):yk E F H K (.bits op k x y)=(yBits K H op k (y2 k (ev F x) (ev F y))):=rfl
theorem zq4z (E) (F) (H) (K) (op) (k) (x) (y):yk E F H K (.shift op k x y)=(yShift K H op k (y1s k (ev F x) (ev F y))):=rfl
theorem zq50 (E) (F) (H) (K) (op) (k) (x) (y):yk E F H K (.cmp op k x y)=(yCmp K H op (y2 k (ev F x) (ev F y))):=rfl
theorem zq51 (E) (F) (H) (K) (op) (x) (y):yk E F H K (.eqs op x y)=(yEqs K H op (yst (ev F x) (ev F y))):=rfl
theorem zq52 (E) (F) (H) (K) (x):yk E F H K (.not x)=(yNot K H (ev F x)):=rfl
theorem zq53 (E) (F) (H) (K) (k) (x):yk E F H K (.conv k x)=(yConv K H k (y1 (ev F x))):=rfl
theorem zq54 (E) (F) (H) (K) (x):yk E F H K (.lenS x)=(yLenS K H (ev F x)):=rfl
theorem zq55 (E) (F) (H) (K) (x):yk E F H K (.lenT x)=(yLenT K H (ev F x)):=rfl
theorem zq56 (E) (F) (H) (K) (sz) (x) (i):yk E F H K (.idx sz x i)=(yIdx K H sz (ev F x) (y1 (ev F i))):=rfl
theorem zq57 (E) (F) (H) (K) (n) (sz) (x) (i):yk E F H K (.idxA n sz x i)=(yIdxA K H n sz (ev F x) (y1 (ev F i))):=rfl
theorem zq58 (E) (F) (H) (K) (off) (x):yk E F H K (.fld off x)=(yFld K H off (ev F x)):=rfl
theorem zq59 (E) (F) (H) (K) (off) (size) (agg) (x):yk E F H K (.fldv off size agg x)=(yFldv K H off size agg (ev F x)):=rfl
theorem zq5a (E) (F) (H) (K) (cks) (agg) (x):yk E F H K (.load cks agg x)=(yLoadP E K H cks agg (ev F x)):=rfl
theorem zq5b (E) (F) (H) (K) (n) (x) (v):yk E F H K (.store n x v)=(yStore K H n (ev F x) (yCells n (ev F v))):=rfl
theorem zq5c (E) (F) (H) (K) (t) (zero):yk E F H K (.alloc t zero)=(∀ g,K (.ptr H.length 0) (H++[.cells g t (zero.map svc)])):=rfl
theorem zq5d (E) (F) (H) (K) (t) (n) (v):yk E F H K (.box t n v)=(yBox K H t (yCells n (ev F v))):=rfl
theorem zq5e (E) (F) (H) (K) (zero) (parts):yk E F H K (.build zero parts)=(yBuild K H (yFill F (some (zero.map svc)) parts)):=rfl
theorem zq5f (E) (F) (H) (K) (t) (len) (sz) (zero) (parts):yk E F H K (.buildS t len sz zero parts)=(yBuildS K H t len (yFillS F sz (some (repL (zero.map svc) len)) parts)):=rfl
theorem zq5g (E) (F) (H) (K) (x):yk E F H K (.nilc x)=(yNil K H (ev F x)):=rfl
theorem zq5h (E) (F) (H) (K) (x) (i):yk E F H K (.ext x i)=(yExt K H i (ev F x)):=rfl
theorem zq5i (E) (F) (H) (K) (f) (first) (captured):yk E F H K (.mkfn f first captured)=(K (.fn f (evL F first) (evL F captured)) H):=rfl
theorem zq5j (E) (F) (H) (K) (t) (sz) (bytes) (d) (x):yk E F H K (.app t sz bytes d x)=(yAppM E K H t sz bytes (ev F x) (yMd H t sz (ev F d))):=rfl
theorem zq5k (E) (F) (H) (K) (x) (y):yk E F H K (.cat x y)=(yCat K H (yst (ev F x) (ev F y))):=rfl
theorem zq5l (E) (F) (H) (K) (sz) (x) (lo) (hi):yk E F H K (.sub sz x lo hi)=(ySub K H sz lo (ev F x) (loI F lo) (hiI F hi)):=rfl
theorem zq5m (E) (F) (H) (K) (x) (lo) (hi):yk E F H K (.subT x lo hi)=(ySubT K H (ev F x) (loI F lo) (hiI F hi)):=rfl
theorem zq5n (E) (F) (H) (K) (x) (i):yk E F H K (.ixT x i)=(yIxT K H (ev F x) (y1 (ev F i))):=rfl
theorem zq5o (E) (F) (H) (K) (n) (sz) (agg) (x) (i):yk E F H K (.ixA n sz agg x i)=(yIxA K H n sz agg (ev F x) (y1 (ev F i))):=rfl
theorem zq5p (E) (F) (H) (K) (neg) (ks) (x) (y):yk E F H K (.eqa neg ks x y)=(yEqa K H neg (eqO ks (ev F x) (ev F y))):=rfl
theorem zq5q (E) (F) (H) (K) (k) (neg) (x):yk E F H K (.isnil k neg x)=(yEqa K H neg (yNilOf H k (ev F x))):=rfl
theorem zq5r (E) (F) (H) (K) (neg) (u1) (x) (y):yk E F H K (.eqif neg u1 x y)=(yEqi K H neg y (ev F x)):=rfl
theorem zq5s (E) (F) (H) (K) (t) (x):yk E F H K (.s2b t x)=(yS2b K H t (ev F x)):=rfl
theorem zq5t (E) (F) (H) (K) (x):yk E F H K (.mrk x)=(yMrk K H (ev F x)):=rfl
theorem zq5u (E) (F) (H) (K) (w) (l):yk E F H K (.lib w l)=(yLib K H w (evL F l)):=rfl
theorem zq5v (E) (F) (H) (K):yk E F H K .mkmap=(∀ g,K (.mp H.length) (H++[.map g []])):=rfl
theorem zq5w (E) (F) (H) (K) (c) (z) (ok) (x) (i):yk E F H K (.lkup c z ok x i)=(yLk K H c z ok (ev F x) (ev F i)):=rfl
theorem zq5x (E) (F) (H) (K) (cs) (z) (ok) (x) (i):yk E F H K (.lkupA cs z ok x i)=(yLa K H cs z ok (ev F x) (den H (ev F i))):=rfl
theorem zq5y (E) (F) (H) (K) (cs) (x) (i) (v):yk E F H K (.mupdA cs x i v)=(yMa K H cs (ev F x) (den H (ev F i)) (den H (ev F v))):=rfl
theorem zq5z (E) (F) (H) (K) (c) (x) (i) (v):yk E F H K (.mupd c x i v)=(yMu K H c (den H (ev F v)) (ev F x) (ev F i)):=rfl
theorem zq60 (E) (F) (H) (K) (t) (sz) (bytes) (z) (l) (c):yk E F H K (.mkslc t sz bytes z l c)=(yMks K H t sz bytes z (y1 (ev F l)) (y1 (ev F c))):=rfl
theorem zq61 (E) (F) (H) (K) (x) (v):yk E F H K (.str0 x v)=(yS0 K H (ev F x) (ev F v)):=rfl
theorem zq62 (c) (F) (Kr) (Ks):yGd c F Kr Ks true .bt=(Kr F):=rfl
theorem zq63 (c) (F) (Kr) (Ks):yGd c F Kr Ks false .bt=(Ks F):=rfl
theorem zq64 (c) (F) (Kr) (Ks):yGd c F Kr Ks true .bf=(Ks F):=rfl
theorem zq65 (c) (F) (Kr) (Ks):yGd c F Kr Ks false .bf=(Kr F):=rfl
theorem zq66 (c) (F) (Kr) (Ks) (b):yGd c F Kr Ks true (.val (.bool b))=((b=true→Kr ((c,.bt) :: F))∧(b=false→Ks ((c,.bf) :: F))):=rfl
theorem zq67 (c) (F) (Kr) (Ks) (b):yGd c F Kr Ks false (.val (.bool b))=((b=true→Ks ((c,.bt) :: F))∧(b=false→Kr ((c,.bf) :: F))):=rfl
theorem zq68 (c) (F) (Ka) (Kb):yIfC c F Ka Kb .bt=(Ka F):=rfl
theorem zq69 (c) (F) (Ka) (Kb):yIfC c F Ka Kb .bf=(Kb F):=rfl
theorem zq6a (c) (F) (Ka) (Kb) (b):yIfC c F Ka Kb (.val (.bool b))=((b=true→Ka (tellB F c .bt))∧(b=false→Kb (tellB F c .bf))):=rfl
theorem zq6b (Kx) (N) (k):yPop Kx N (some k)=(Kx k):=rfl
theorem zq6h:svc (.bool true)=.bt:=rfl
theorem zq6i:svc (.bool false)=.bf:=rfl
theorem zq6j (k:IntKind) (n:Int):svc (.int k n)=.val (.int k n):=rfl
theorem zq6l (s:ByteArray):svc (.string s)=.val (.string s):=rfl
theorem zq6m (a:Option Addr):svc (.pointer a)=.val (.pointer a):=rfl
theorem zq6n (a:Option Addr) (n c:Nat):svc (.slice a n c)=.val (.slice a n c):=rfl
theorem zq6o (r:Option Nat):svc (.map r)=.val (.map r):=rfl
theorem zq6r  : svc .nilFunc=.val .nilFunc:=rfl
theorem zq6w (k:IntKind) (n:Int):okCell (.val (.int k n))=true:=rfl
theorem zq6y (s:ByteArray):okCell (.val (.string s))=true:=rfl
theorem zq6z (a:Option Addr):okCell (.val (.pointer a))=true:=rfl
theorem zq70 (a:Option Addr) (n c:Nat):okCell (.val (.slice a n c))=true:=rfl
theorem zq73 (f:Fn) (a b:Array Value):okCell (.val (.func f a b))=true:=rfl
theorem zq79 (b:Bool):okCell (.val (.bool b))=true:=rfl
theorem zq7a  : okCell .bt=true:=rfl
theorem zq7b  : okCell .bf=true:=rfl
theorem zq7d (i o:Nat):okCell (.ptr i o)=true:=rfl
theorem zq7e (A:Option Addr) (o:Nat):okCell (.adr A o)=true:=rfl
theorem zq7f (i o n c:Nat):okCell (.slc i o n c)=true:=rfl
theorem zq7g (i v:Nat):okCell (.own i v)=true:=rfl
theorem zq7i (i:Nat):okCell (.mp i)=true:=rfl
theorem zq7m (n:Nat) (l:List SV):yCells n (.agg l)=cellsB l (l.length == n) (okL l):=rfl
theorem zq7n (n:Nat) (v:Value):yCells n (.val v)=cellsB [.val v] (n == 1) (okCell (.val v)):=rfl
theorem zq7o (m:Nat)  : yCells m .bt=cellsB [.bt] (m == 1) (okCell .bt):=rfl
theorem zq7p (m:Nat)  : yCells m .bf=cellsB [.bf] (m == 1) (okCell .bf):=rfl
theorem zq7r (m:Nat) (i o:Nat):yCells m (.ptr i o)=cellsB [(.ptr i o)] (m == 1) (okCell (.ptr i o)):=rfl
theorem zq7s (m:Nat) (A:Option Addr) (o:Nat):yCells m (.adr A o)=cellsB [(.adr A o)] (m == 1) (okCell (.adr A o)):=rfl
theorem zq7t (m:Nat) (i o n c:Nat):yCells m (.slc i o n c)=cellsB [(.slc i o n c)] (m == 1) (okCell (.slc i o n c)):=rfl
theorem zq7u (m:Nat) (i v:Nat):yCells m (.own i v)=cellsB [(.own i v)] (m == 1) (okCell (.own i v)):=rfl
theorem zq7w (m:Nat) (i:Nat):yCells m (.mp i)=cellsB [(.mp i)] (m == 1) (okCell (.mp i)):=rfl
theorem zq7z (d:Nat) (l:List (Nat × SV)):nz d .unk l=l:=rfl
theorem zq80 (d:Nat) (v:Value) (l:List (Nat × SV)):nz d (.val v) l=(d,.val v) :: l:=rfl
theorem zq81 (d:Nat) (v:List SV) (l:List (Nat × SV)):nz d (.agg v) l=(d,.agg v) :: l:=rfl
theorem zq82 (d:Nat)  (l:List (Nat × SV)):nz d .bt l=(d,.bt) :: l:=rfl
theorem zq83 (d:Nat)  (l:List (Nat × SV)):nz d .bf l=(d,.bf) :: l:=rfl
theorem zq84 (d:Nat) (v:Value) (h:v.oneCell'=true) (l:List (Nat × SV)):nz d (.opq v h) l=(d,(.opq v h)) :: l:=rfl
theorem zq85 (d:Nat) (i o:Nat) (l:List (Nat × SV)):nz d (.ptr i o) l=(d,(.ptr i o)) :: l:=rfl
theorem zq86 (d:Nat) (A:Option Addr) (o:Nat) (l:List (Nat × SV)):nz d (.adr A o) l=(d,(.adr A o)) :: l:=rfl
theorem zq87 (d:Nat) (i o n c:Nat) (l:List (Nat × SV)):nz d (.slc i o n c) l=(d,(.slc i o n c)) :: l:=rfl
theorem zq88 (d:Nat) (i v:Nat) (l:List (Nat × SV)):nz d (.own i v) l=(d,(.own i v)) :: l:=rfl
theorem zq8a (d:Nat) (i:Nat) (l:List (Nat × SV)):nz d (.mp i) l=(d,(.mp i)) :: l:=rfl
theorem zq8c (d:Nat) (f:Fn) (a b:List SV) (l:List (Nat × SV)):nz d (.fn f a b) l=(d,(.fn f a b)) :: l:=rfl
def okLB (l:List SV) (b:Bool):Bool:=match b with | true=>okL l | false=>false
theorem zq8d:okL []=true:=rfl
theorem zq8e (v:SV) (l:List SV):okL (v :: l)=okLB l (okCell v):=rfl
theorem zq8f (l:List SV):okLB l true=okL l:=rfl
theorem zq8h (F:List (Nat × SV)) (t:Nat):ev F (.tmp t)=lk F t:=rfl
theorem zq8i (F:List (Nat × SV)) (v:Value):ev F (.const v)=svc v:=rfl
theorem zq8j (F:List (Nat × SV)) (g:Nat):ev F (.global g)=.adr (some ⟨g,0,none⟩) 0:=rfl
theorem zq8k (F:List (Nat × SV)) (f:FuncId):ev F (.func f)=.val (.func (.func f) #[] #[]):=rfl
theorem zq8l (F:List (Nat × SV)) (v:SV):putF F none v=F:=rfl
theorem zq8m (F:List (Nat × SV)) (d:Nat) (v:SV):putF F (some d) v=(d,v) :: F:=rfl
theorem zq8o:bOf .bf=some false:=rfl
theorem zq8p (b:Bool):bOf (.val (.bool b))=some b:=rfl
theorem zq8q (F:List (Nat × SV)) (d:Nat) (v:SV):tellB F (.tmp d) v=(d,v) :: F:=rfl
theorem zq8v:kEq .i64 .i64=true:=rfl
theorem zq8w:kEq .u8 .u8=true:=rfl
theorem zq8z:kEq .u64 .u64=true:=rfl
theorem zq91 (A:Option Addr) (c:Nat) (l:Int) (sz:Nat) (o:Operand):lowA A c l sz (some o)=subA A c l.toNat sz:=rfl
theorem zq92 (off c:Nat) (l:Int) (sz:Nat):lowO off c l sz none=off:=rfl
theorem zq93 (off c:Nat) (l:Int) (sz:Nat) (o:Operand):lowO off c l sz (some o)=subO off c l.toNat sz:=rfl
theorem zq94 {α:Type} (o:Option α):and2 true true o=o:=rfl
theorem zq95 (a b:Int):cmpB .eql a b=(a == b):=rfl
theorem zq96 (a b:Int):cmpB .neq a b=(a != b):=rfl
theorem zq97 (a b:Int):cmpB .lss a b=decide (a < b):=rfl
theorem zq98 (a b:Int):cmpB .leq a b=decide (a≤b):=rfl
theorem zq99 (a b:Int):cmpB .gtr a b=decide (a > b):=rfl
theorem zq9a (a b:Int):cmpB .geq a b=decide (a≥b):=rfl
theorem zj3i {α:Type} {b c:Bool} {o:Option α} {x:α} (h:and2 b c o=some x):b=true∧c=true∧o=some x:=by
 unfold and2 at h
 split at h
 ·exact⟨rfl,rfl,h⟩
 ·cases h
theorem y2_some {k:IntKind} {u v:SV} {p:Int × Int} (h:y2 k u v=some p):∃ j i,u=.val (.int j p.1)∧v=.val (.int i p.2)∧kEq j k=true∧kEq i k=true:=by
 unfold y2 at h
 split at h
 ·obtain⟨h1,h2,h3⟩:=zj3i h
  injection h3 with h3; subst h3
  exact⟨_,_,rfl,rfl,h1,h2⟩
 ·cases h
theorem y1s_some {k:IntKind} {u v:SV} {p:Int × Int} (h:y1s k u v=some p):∃ j i,u=.val (.int j p.1)∧v=.val (.int i p.2)∧kEq j k=true:=by
 unfold y1s at h
 split at h
 ·obtain⟨h1,h2,h3⟩:=zj3i h
  injection h3 with h3; subst h3
  exact⟨_,_,rfl,rfl,h1⟩
 ·cases h
theorem zj1n {u:SV} {a:Int} (h:y1 u=some a):∃ j,u=.val (.int j a):=by
 unfold y1 at h
 split at h
 ·injection h with h; subst h; exact⟨_,rfl⟩
 ·cases h
theorem yst_some {u v:SV} {p:ByteArray × ByteArray} (h:yst u v=some p):u=.val (.string p.1)∧v=.val (.string p.2):=by
 unfold yst at h
 split at h
 ·injection h with h; subst h; exact⟨rfl,rfl⟩
 ·cases h
theorem zj18 {H:List SO} {i ver:Nat} {e:OwnE} (h:curE ver (nth H i)=some e) (K:TypeId→Nat→Option Addr→Nat→Nat→List Value→Prop) (hk:K e.t e.sz e.A e.n e.c e.xs):cur H i ver K:=by
 unfold curE at h
 split at h
 ·rename_i t ver' sz A n c xs hn
  unfold curB at h
  split at h
  ·rename_i hb
   injection h with h; subst h
   simp only[cur,hn,hb]; exact hk
  ·cases h
 ·cases h
theorem zj2q (n:Nat) (v:SV):yCells n v=cellsOf n v:=by
 cases v <;> simp only[yCells,cellsOf,cellsB] <;> rfl
theorem zj78 {K:KT} {H:List SO} {agg:Bool} {l:List SV} (h:yOne K H agg l):one agg l fun v=>K v H:=by
 unfold yOne at h
 split at h
 ·exact h
 ·exact h
 ·exact h.elim
theorem zj1y {K:KT} {H:List SO} {agg:Bool} {F:Nat→Value→Prop}:∀ (l:List CK) (off:Nat) (acc:List SV),yLoad K H agg F l off acc→ckExL l F off fun vs=>one agg (acc++vs) fun v=>K v H
 | [],off,acc,h=>by simp only[yLoad] at h; simp only[ckExL,List.append_nil]; exact zj78 h
 | c :: l,off,acc,h=>by
  have cont:∀ (v:SV),yLoad K H agg F l (off+1) (acc++[v])→ckExL l F (off+1) fun vs=>one agg (acc++v :: vs) fun v=>K v H:=by
   intro v hv
   have:=zj1y l (off+1) (acc++[v]) hv
   simpa [List.append_assoc] using this
  cases c <;> simp only[yLoad] at h <;> simp only[ckExL,ckEx]
  ·obtain⟨n,h1,h2⟩:=h; exact⟨n,h1,cont _ h2⟩
  ·obtain⟨n,h1,h2⟩:=h; exact⟨n,h1,cont _ h2⟩
  ·obtain⟨n,h1,h2⟩:=h; exact⟨n,h1,cont _ h2⟩
  ·obtain⟨n,h1,h2⟩:=h; exact⟨n,h1,cont _ h2⟩
  ·obtain⟨a,n,c,h1,h2⟩:=h; exact⟨a,n,c,h1,cont _ h2⟩
  ·obtain⟨n,h1,h2⟩:=h; exact⟨n,h1,cont _ h2⟩
  ·obtain⟨n,h1,h2,h3⟩:=h; exact⟨n,h1,h2,cont _ h3⟩
  ·obtain⟨n,h1,h2,h3⟩:=h; exact⟨n,h1,h2,cont _ h3⟩
theorem yFill_none (F:List (Nat × SV)):∀ ps,yFill F none ps=none
 | []=>rfl
 | (_,_,_) :: _=>rfl
theorem zj60 (F:List (Nat × SV)):∀ (ps:List (Nat × Nat × Operand)) (l r:List SV),yFill F (some l) ps=some r→xfill F l ps=some r
 | [],l,r,h=>h
 | (off,n,x) :: ps,l,r,h=>by
  simp only[yFill] at h
  simp only[xfill]
  rw[← zj2q]
  unfold yFillB at h
  split at h
  ·rename_i h1 h2
   simp only[h1,h2]
   exact zj60 F ps _ r h
  ·rw[yFill_none] at h; cases h
theorem yFillS_none (F:List (Nat × SV)) (sz:Nat):∀ ps,yFillS F sz none ps=none
 | []=>rfl
 | (_,_) :: _=>rfl
theorem zj4i (F:List (Nat × SV)) (sz:Nat):∀ (ps:List (Nat × Operand)) (l r:List SV),yFillS F sz (some l) ps=some r→xfillS F sz l ps=some r
 | [],l,r,h=>h
 | (i,x) :: ps,l,r,h=>by
  simp only[yFillS] at h
  simp only[xfillS]
  rw[← zj2q]
  unfold yFillB at h
  split at h
  ·rename_i h1 h2
   simp only[h1,h2]
   exact zj4i F _ ps _ r h
  ·rw[yFillS_none] at h; cases h
theorem ySrc_spec {E:Env} {K:KT} {H:List SO} {t:TypeId} {sz bytes:Nat} {md:AppM} {x:SV} (h:ySrc E K H t sz bytes md x):xsrc E H sz x fun m news=>yApp3 K H t sz bytes m news md:=by
 unfold ySrc at h
 split at h
 ·rename_i j off m _
  unfold ySrcK at h
  split at h
  ·rename_i vs hvs
   unfold ySrcD at hvs
   split at hvs
   ·rename_i svs hc
    obtain⟨h1,_,h2⟩:=zj3i hvs
    unfold ySrcC at hc
    split at hc
    ·rename_i l hn
     simp only[xsrc,hn,hc,h1,h2]; exact h
    ·cases hc
   ·cases hvs
  ·exact h.elim
 ·exact h
 ·exact h
 ·unfold ySrcO at h
  split at h
  ·rename_i e he
   exact zj18 he _ h
  ·exact h.elim
 ·exact h.elim
theorem zj3x {F:List (Nat × SV)} {lo:Option Operand} {l:Int} (h:loI F lo=some l):lowOf F lo=some l:=by
 cases lo with
 | none=>exact h
 | some o =>
  obtain⟨j,e⟩:=zj1n (h:y1 (ev F o)=some l)
  simp only[lowOf,e]
theorem zj54 {F:List (Nat × SV)} {hi:Option Operand} (n:Nat) (h:hiI F hi=some none):hi=none∧highOf F n hi=some (n:Int):=by
 cases hi with
 | none=>exact⟨rfl,rfl⟩
 | some o =>
  have h:hiS (y1 (ev F o))=some none:=h
  unfold hiS at h; split at h <;> cases h
theorem zj55 {F:List (Nat × SV)} {hi:Option Operand} (n:Nat) {q:Int} (h:hiI F hi=some (some q)):highOf F n hi=some q∧∀ c:Nat,q≤c→capOk q c hi:=by
 cases hi with
 | none=>cases h
 | some o =>
  have h:hiS (y1 (ev F o))=some (some q):=h
  unfold hiS at h; split at h
  ·rename_i e; injection h with h; injection h with h; subst h
   obtain⟨j,e⟩:=zj1n e
   exact⟨by simp only[highOf,e],fun c hc=>hc⟩
  ·cases h
theorem zj61 {H:List SO} {k:NK} {v:SV} {b:Bool} (h:yNilOf H k v=some b):nilOf k H v=some b:=by
 unfold yNilOf at h
 split at h <;> first | exact h | exact absurd h (by simp) | skip
 unfold nilO at h
 split at h
 ·rename_i e he
  unfold curE at he
  split at he
  ·rename_i hn
   unfold curB at he
   split at he
   ·rename_i hb; injection he with he; subst he
    simp only[nilOf,hn,hb]; exact h
   ·cases he
  ·cases he
 ·cases h
theorem yk_xk {E:Env} {s:SS} {K:KT} {x:XK} (h:yk E s.F s.H K x):xk E s K x:=by
 cases x <;> simp only[yk] at h <;> simp only[xk]
 case mov=>exact h
 case pick=>unfold yPick at h; split at h <;> rename_i e <;> simp only[e] <;> exact h
 case arith =>
  unfold yArith at h; split at h
  ·rename_i a b e; obtain⟨j,i,e1,e2,e3,e4⟩:=y2_some e; simp only[e1,e2,e3,e4]; exact h
  ·exact h.elim
 case div =>
  unfold yDiv at h; split at h
  ·rename_i a b e; obtain⟨j,i,e1,e2,e3,e4⟩:=y2_some e; simp only[e1,e2,e3,e4]; exact h
  ·exact h.elim
 case bits =>
  unfold yBits at h; split at h
  ·rename_i a b e; obtain⟨j,i,e1,e2,e3,e4⟩:=y2_some e; simp only[e1,e2,e3,e4]; exact h
  ·exact h.elim
 case shift =>
  unfold yShift at h; split at h
  ·rename_i a b e; obtain⟨j,i,e1,e2,e3⟩:=y1s_some e; simp only[e1,e2,e3]; exact h
  ·exact h.elim
 case cmp =>
  unfold yCmp at h; split at h
  ·rename_i a b e; obtain⟨j,i,e1,e2,e3,e4⟩:=y2_some e; simp only[e1,e2,e3,e4]; exact h
  ·exact h.elim
 case eqs =>
  unfold yEqs at h; split at h
  ·rename_i a b e; obtain⟨e1,e2⟩:=yst_some e; simp only[e1,e2]; exact h
  ·exact h.elim
 case not=>unfold yNot at h; split at h <;> first | exact h.elim | (rename_i e; simp only[e]; exact h)
 case conv =>
  unfold yConv at h; split at h
  ·rename_i a e; obtain⟨j,e1⟩:=zj1n e; simp only[e1]; exact h
  ·exact h.elim
 case lenS =>
  unfold yLenS at h; split at h
  ·rename_i e; simp only[e]; exact h
  ·rename_i e; simp only[e]; exact h
  ·rename_i i ver e; simp only[e]
   unfold yLenO at h; split at h
   ·rename_i o ho; exact zj18 ho _ h
   ·exact h.elim
  ·exact h.elim
 case lenT=>unfold yLenT at h; split at h <;> first | exact h.elim | (rename_i e; simp only[e]; exact h)
 case idx =>
  unfold yIdx at h; split at h
  ·rename_i e1 e2; obtain⟨_,e2⟩:=zj1n e2; simp only[e1,e2]; exact h
  ·rename_i e1 e2; obtain⟨_,e2⟩:=zj1n e2; simp only[e1,e2]; exact h
  ·rename_i e1 e2; obtain⟨_,e2⟩:=zj1n e2; simp only[e1,e2]
   unfold yIdxO at h; split at h
   ·rename_i o ho; exact zj18 ho _ h
   ·exact h.elim
  ·exact h.elim
 case idxA =>
  unfold yIdxA at h; split at h
  ·rename_i e1 e2; obtain⟨_,e2⟩:=zj1n e2; simp only[e1,e2]; exact h
  ·rename_i e1 e2; obtain⟨_,e2⟩:=zj1n e2; simp only[e1,e2]
   unfold yIdxAO at h; split at h
   ·rename_i o ho; exact zj18 ho _ h
   ·exact h.elim
  ·rename_i e1 e2; obtain⟨_,e2⟩:=zj1n e2; simp only[e1,e2]; exact h
  ·exact h.elim
 case fld =>
  unfold yFld at h; split at h
  ·rename_i e; simp only[e]; exact h
  ·rename_i e; simp only[e]
   unfold yKO at h; split at h
   ·rename_i o ho; exact zj18 ho _ h
   ·exact h.elim
  ·rename_i e; simp only[e]; exact h
  ·exact h.elim
 case fldv =>
  unfold yFldv at h; split at h
  ·rename_i e; simp only[e]
   unfold yOneO at h; split at h
   ·rename_i e; simp only[e]; exact zj78 h
   ·exact h.elim
  ·exact h.elim
 case load cks agg x =>
  unfold yLoadP at h; split at h
  ·rename_i e; simp only[e,xload,atEntry]
   unfold yLoadE at h; split at h
   ·rename_i e; simp only[e]
    unfold yOneO at h; split at h
    ·rename_i e; simp only[e]; exact zj78 h
    ·exact h.elim
   ·rename_i e; simp only[e]
    exact zj1y _ _ _ h
   ·rename_i e; simp only[e]
    exact zj1y _ _ _ h
   ·exact h.elim
  ·rename_i e; simp only[e,xload]
   exact zj1y _ _ _ h
  ·rename_i e; simp only[e,xload]
   unfold yLoadO at h; split at h
   ·rename_i o ho; exact zj18 ho _ (zj1y _ _ _ h)
   ·exact h.elim
  ·exact h.elim
 case store n x v =>
  unfold yStore at h; split at h
  ·rename_i e1 e2; rw[zj2q] at e2; simp only[xstore,e1,e2]
   unfold yStE at h; split at h
   ·rename_i e; simp only[e]
    unfold yStC at h; split at h
    ·rename_i e; simp only[e]; exact h
    ·exact h.elim
   ·rename_i e; simp only[e]
    unfold yStR at h; split at h
    ·rename_i e; simp only[e]; exact h
    ·exact h.elim
   ·exact h.elim
  ·rename_i e1 e2; rw[zj2q] at e2; simp only[xstore,e1,e2]
   unfold yStO at h; split at h
   ·rename_i o ho
    refine zj18 ho _ ?_
    unfold yStO2 at h; split at h
    ·rename_i e; simp only[e]; exact h
    ·exact h.elim
   ·exact h.elim
  ·exact h.elim
 case alloc=>exact h
 case box =>
  rw[zj2q] at h
  unfold yBox at h; split at h
  ·rename_i e; simp only[e]; exact h
  ·exact h.elim
 case build =>
  unfold yBuild at h; split at h
  ·rename_i e; rw[zj60 _ _ _ _ e]; exact h
  ·exact h.elim
 case buildS =>
  unfold yBuildS at h; split at h
  ·rename_i e; rw[zj4i _ _ _ _ _ e]; exact h
  ·exact h.elim
 case nilc =>
  unfold yNil at h; split at h
  ·rename_i e; simp only[e]; exact h
  ·rename_i e; simp only[e]
   unfold yKO at h; split at h
   ·rename_i o ho; exact zj18 ho _ h
   ·exact h.elim
  ·rename_i e; simp only[e]; exact h
  ·rename_i e; simp only[e]; unfold yNilF at h; exact h
  ·rename_i e; simp only[e]; unfold yNilF at h; exact h
  ·exact h.elim
 case ext =>
  unfold yExt at h; split at h
  ·rename_i e; simp only[e]
   unfold yExtO at h; split at h
   ·rename_i e; simp only[e]; exact h
   ·exact h.elim
  ·exact h.elim
 case mkfn=>exact h
 case app t sz bytes d x =>
  unfold yAppM at h; split at h
  ·rename_i md hmd
   have h:=ySrc_spec h
   unfold yMd at hmd; split at hmd
   ·rename_i e; injection hmd with hmd; subst hmd
    simp only[e,xapp]; exact h
   ·rename_i i ver e
    simp only[e,xapp]
    unfold appO at hmd; split at hmd
    ·rename_i o ho
     obtain⟨h1,h2,h3⟩:=zj3i hmd
     injection h3 with h3; subst h3
     refine zj18 ho _ ?_
     simp only[h1,h2]; exact h
    ·cases hmd
   ·rename_i i n c e
    simp only[e,xapp]
    unfold appL at hmd; split at hmd
    ·rename_i e; simp only[e]
     unfold appL2 at hmd; split at hmd
     ·rename_i e1 e2 e3 e4
      injection hmd with h3; subst h3
      simp only[e1,e2,e3,e4]; exact h
     ·cases hmd
    ·cases hmd
   ·cases hmd
  ·exact h.elim
 case cat =>
  unfold yCat at h; split at h
  ·rename_i a b e; obtain⟨e1,e2⟩:=yst_some e; simp only[e1,e2]; exact h
  ·exact h.elim
 case sub =>
  unfold ySub at h; split at h
  ·rename_i A n c l e1 e2 e3
   have e2:=zj3x e2; obtain⟨rfl,e3⟩:=zj54 n e3
   simp only[e1,e2,e3]; exact⟨⟨h.1.1,h.1.2,trivial⟩,h.2⟩
  ·rename_i A n c l q e1 e2 e3
   have e2:=zj3x e2; obtain⟨e3,e4⟩:=zj55 n e3
   simp only[e1,e2,e3]; exact⟨⟨h.1.1,h.1.2.1,e4 _ h.1.2.2⟩,h.2⟩
  ·rename_i i off n c l e1 e2 e3
   have e2:=zj3x e2; obtain⟨rfl,e3⟩:=zj54 n e3
   simp only[e1,e2,e3]; exact⟨⟨h.1.1,h.1.2,trivial⟩,h.2⟩
  ·rename_i i off n c l q e1 e2 e3
   have e2:=zj3x e2; obtain⟨e3,e4⟩:=zj55 n e3
   simp only[e1,e2,e3]; exact⟨⟨h.1.1,h.1.2.1,e4 _ h.1.2.2⟩,h.2⟩
  ·rename_i i ver l e1 e2
   have e2:=zj3x e2
   simp only[e1,e2]
   unfold ySubO at h; split at h
   ·rename_i e e3 ho
    obtain⟨rfl,e3⟩:=zj54 e.n e3
    refine zj18 ho _ ?_
    simp only[e3]; exact⟨⟨h.1.1,h.1.2,trivial⟩,h.2⟩
   ·rename_i q e e3 ho
    obtain⟨e3,e4⟩:=zj55 e.n e3
    refine zj18 ho _ ?_
    simp only[e3]; exact⟨⟨h.1.1,h.1.2.1,e4 _ h.1.2.2⟩,h.2⟩
   ·exact h.elim
  ·exact h.elim
 case subT =>
  unfold ySubT at h; split at h
  ·rename_i b l e1 e2 e3
   have e2:=zj3x e2; obtain⟨rfl,e3⟩:=zj54 b.size e3
   simp only[e1,e2,e3]; exact⟨⟨h.1.1,h.1.2,Int.le_refl _⟩,h.2⟩
  ·rename_i b l q e1 e2 e3
   have e2:=zj3x e2; obtain⟨e3,_⟩:=zj55 b.size e3
   simp only[e1,e2,e3]; exact h
  ·exact h.elim
 case ixT =>
  unfold yIxT at h; split at h
  ·rename_i e1 e2; obtain⟨_,e2⟩:=zj1n e2; simp only[e1,e2]; exact h
  ·exact h.elim
 case ixA =>
  unfold yIxA at h; split at h
  ·rename_i e1 e2; obtain⟨_,e2⟩:=zj1n e2; simp only[e1,e2]; obtain⟨h1,svs,h2,h3⟩:=h; exact⟨h1,svs,h2,h3⟩
  ·rename_i e1 e2; obtain⟨_,e2⟩:=zj1n e2; simp only[e1,e2]; obtain⟨h1,m,h2,h3⟩:=h; exact⟨h1,_,h2,h3⟩
  ·exact h.elim
 case eqa =>
  unfold yEqa at h; split at h
  ·rename_i e; unfold eqO at e; split at e
   ·rename_i e1 e2; simp only[e1,e2,e]; exact h
   ·cases e
  ·rename_i e; unfold eqO at e; split at e
   ·rename_i e1 e2; simp only[e1,e2,e]; exact h
   ·cases e
  ·exact h.elim
 case isnil =>
  unfold yEqa at h; split at h
  ·rename_i e; simp only[zj61 e]; exact h
  ·rename_i e; simp only[zj61 e]; exact h
  ·exact h.elim
 case eqif =>
  unfold yEqi at h; unfold xEqi; split at h
  ·rename_i e; simp only[e]; exact h
  ·rename_i e; simp only[e]; exact h
  ·rename_i e; simp only[e]; exact h
  ·rename_i e; simp only[e]; exact h
  ·exact h.elim
 case s2b =>
  unfold yS2b at h; split at h
  ·rename_i e; simp only[e]; exact h
  ·exact h.elim
 case mrk =>
  unfold yMrk at h; split at h
  ·rename_i e; simp only[e]
   unfold yMrkE at h; split at h
   ·rename_i e; simp only[e]
    unfold yMrkO at h; split at h
    ·rename_i e; simp only[e]; exact h
    ·exact h.elim
   ·exact h.elim
  ·exact h.elim
 case lib =>
  unfold yLib at h; split at h
  ·rename_i e; simp only[e]; exact h
  ·exact h.elim
 case str0 =>
  unfold yS0 at h; split at h
  ·rename_i e1 e2
   simp only[e1,e2]
   exact h
  ·exact h.elim
 case mkmap=>exact h
 case lkupA =>
  unfold yLa at h; split at h
  ·rename_i e1 e2
   unfold yLaE at h; split at h
   ·rename_i e3
    simp only[e1,e2,e3]
    obtain⟨h1,r,h2,v,h3,h4⟩:=h
    refine⟨h1,r,h2,v,h3,?_⟩
    unfold yLkV at h4; split at h4 <;> exact h4
   ·exact h.elim
  ·exact h.elim
 case mupdA =>
  unfold yMa at h; split at h
  ·rename_i e1 e2 e3
   unfold yMaE at h; split at h
   ·rename_i e4
    simp only[e1,e2,e3,e4]
    exact h
   ·exact h.elim
  ·exact h.elim
 case lkup =>
  unfold yLk at h; split at h
  ·rename_i e1 e2
   unfold yLkE at h; split at h
   ·rename_i e3 e4
    simp only[e1,e2,e3,e4]
    obtain⟨h1,r,h2,v,h3,h4⟩:=h
    refine⟨h1,r,h2,v,h3,?_⟩
    unfold yLkV at h4; split at h4 <;> exact h4
   ·exact h.elim
  ·exact h.elim
 case mupd =>
  unfold yMu at h; split at h
  ·rename_i e1 e2
   unfold yMuE at h; split at h
   ·rename_i e3 e4 e5
    simp only[e1,e2,e3,e4,e5]
    exact h
   ·exact h.elim
  ·exact h.elim
 case mkslc =>
  unfold yMks at h; split at h
  ·rename_i e1 e2
   obtain⟨_,e1⟩:=zj1n e1; obtain⟨_,e2⟩:=zj1n e2
   simp only[e1,e2]
   exact h
  ·exact h.elim
def Y (C:Cx) (E:Env):Nat→List KI→List (Nat × SV)→List SO→Prop
 | 0,k,F,H=>G C E k { F:=F,H:=H }
 | n+1,.ops [] :: k,F,H=>Y C E n k (normF F C.keep) H
 | n+1,.ops ({ dst:=d,guard:=none,i:=.k x } :: l) :: k,F,H=>yk E F H (fun sv H=>Y C E n (.ops l :: k) (putF F d sv) H) x
 | n+1,.ops ({ dst:=d,guard:=some (c,w),i:=.k x } :: l) :: k,F,H =>
   yGd c F (fun F=>yk E F H (fun sv H=>Y C E n (.ops l :: k) (putF F d sv) H) x) (fun F=>Y C E n (.ops l :: k) (putF F d (.val undef)) H) w (lk F c)
 | _+1,.ops ({ dst:=d,guard:=none,i:=i } :: l) :: k,F,H=>G C E (.ops ({ dst:=d,guard:=none,i:=i } :: l) :: k) { F:=F,H:=H }
 | n+1,.ops ({ dst:=d,guard:=some (c,w),i:=i } :: l) :: k,F,H =>
   yGd c F (fun F=>G C E (.ops ({ dst:=d,guard:=none,i:=i } :: l) :: k) { F:=F,H:=H }) (fun F=>Y C E n (.ops l :: k) (putF F d (.val undef)) H) w (lk F c)
 | n+1,.code .skip :: k,F,H=>Y C E n k F H
 | n+1,.code (.ops l) :: k,F,H=>Y C E n (.ops l :: k) F H
 | n+1,.code (.seq a b) :: k,F,H=>Y C E n (.code a :: .code b :: k) F H
 | n+1,.code (.cond c a b) :: k,F,H=>yIfC c F (fun F=>Y C E n (.code a :: k) F H) (fun F=>Y C E n (.code b :: k) F H) (ev F c)
 | n+1,.code (.blk id a) :: k,F,H=>Y C E n (.code a :: .blk id :: k) F H
 | n+1,.code (.exit id) :: k,F,H=>yPop (fun k'=>Y C E n k' F H) (G C E (.code (.exit id) :: k) { F:=F,H:=H }) (popTo id k)
 | _+1,.code (.loop a) :: k,F,H=>G C E (.code (.loop a) :: k) { F:=F,H:=H }
 | _+1,.code .ret :: _,F,H=>RetG C E { F:=F,H:=H }
 | _+1,.code (.rng g ps a b) :: k,F,H=>G C E (.code (.rng g ps a b) :: k) { F:=F,H:=H }
 | n+1,.code (.ref i) :: k,F,H=>Y C E n (.code (C.tab i) :: k) F H
 | _+1,.code (.scp a) :: k,F,H=>G C E (.code (.scp a) :: k) { F:=F,H:=H }
 | _+1,.code (.alt m t) :: k,F,H=>G C E (.code (.alt m t) :: k) { F:=F,H:=H }
 | n+1,.code .lab :: k,F,H=>Y C E n k F H
 | n+1,.blk _ :: k,F,H=>Y C E n k F H
 | _+1,.lend I :: k,F,H=>G C E (.lend I :: k) { F:=F,H:=H }
 | _+1,[],F,H=>G C E [] { F:=F,H:=H }
def YK (C:Cx) (E:Env) (n:Nat) (k:List KI) (F:List (Nat × SV)) (d:Option Nat) (sv:SV) (H:List SO):Prop:=Y C E n k (putF F d sv) H
def YR (C:Cx) (E:Env) (n:Nat) (k:List KI) (H:List SO) (d:Option Nat) (x:XK) (F:List (Nat × SV)):Prop:=yk E F H (YK C E n k F d) x
def YS (C:Cx) (E:Env) (n:Nat) (k:List KI) (H:List SO) (d:Option Nat) (F:List (Nat × SV)):Prop:=Y C E n k (putF F d (.val undef)) H
def YG (C:Cx) (E:Env) (d:Option Nat) (i:XI) (l:List XS) (k:List KI) (H:List SO) (F:List (Nat × SV)):Prop:=G C E (.ops ({ dst:=d,guard:=none,i:=i } :: l) :: k) { F:=F,H:=H }
def YC (C:Cx) (E:Env) (n:Nat) (a:XC) (k:List KI) (H:List SO) (F:List (Nat × SV)):Prop:=Y C E n (.code a :: k) F H
def YP (C:Cx) (E:Env) (n:Nat) (F:List (Nat × SV)) (H:List SO) (k:List KI):Prop:=Y C E n k F H
section
variable (C:Cx) (E:Env) (n:Nat) (k:List KI) (F:List (Nat × SV)) (H:List SO)
theorem zq9b:Y C E (n+1) (.ops [] :: k) F H=Y C E n k (normF F C.keep) H:=rfl
theorem Y_k (d:Option Nat) (x:XK) (l:List XS):Y C E (n+1) (.ops ({ dst:=d,guard:=none,i:=.k x } :: l) :: k) F H=yk E F H (YK C E n (.ops l :: k) F d) x:=rfl
theorem Y_gk (d:Option Nat) (c:Nat) (w:Bool) (x:XK) (l:List XS):Y C E (n+1) (.ops ({ dst:=d,guard:=some (c,w),i:=.k x } :: l) :: k) F H =
 yGd c F (YR C E n (.ops l :: k) H d x) (YS C E n (.ops l :: k) H d) w (lk F c):=rfl
theorem zq9c (d:Option Nat) (f:FuncId) (as:List Operand) (l:List XS):Y C E (n+1) (.ops ({ dst:=d,guard:=none,i:=.call f as } :: l) :: k) F H =
 G C E (.ops ({ dst:=d,guard:=none,i:=.call f as } :: l) :: k) { F:=F,H:=H }:=rfl
theorem zq9d (d:Option Nat) (f:Operand) (as:List Operand) (l:List XS):Y C E (n+1) (.ops ({ dst:=d,guard:=none,i:=.callv f as } :: l) :: k) F H =
 G C E (.ops ({ dst:=d,guard:=none,i:=.callv f as } :: l) :: k) { F:=F,H:=H }:=rfl
theorem zq9e (d:Option Nat) (c:Nat) (w:Bool) (f:FuncId) (as:List Operand) (l:List XS):Y C E (n+1) (.ops ({ dst:=d,guard:=some (c,w),i:=.call f as } :: l) :: k) F H =
 yGd c F (YG C E d (.call f as) l k H) (YS C E n (.ops l :: k) H d) w (lk F c):=rfl
theorem zq9f (d:Option Nat) (e:Nat) (x:XK) (l:List XS):Y C E (n+1) (.ops ({ dst:=d,guard:=none,i:=.still e x } :: l) :: k) F H =
 G C E (.ops ({ dst:=d,guard:=none,i:=.still e x } :: l) :: k) { F:=F,H:=H }:=rfl
theorem zq9g (d:Option Nat) (c:Nat) (w:Bool) (e:Nat) (x:XK) (l:List XS):Y C E (n+1) (.ops ({ dst:=d,guard:=some (c,w),i:=.still e x } :: l) :: k) F H =
 yGd c F (YG C E d (.still e x) l k H) (YS C E n (.ops l :: k) H d) w (lk F c):=rfl
theorem zq9h (d:Option Nat) (c:Nat) (w:Bool) (f:Operand) (as:List Operand) (l:List XS):Y C E (n+1) (.ops ({ dst:=d,guard:=some (c,w),i:=.callv f as } :: l) :: k) F H =
 yGd c F (YG C E d (.callv f as) l k H) (YS C E n (.ops l :: k) H d) w (lk F c):=rfl
theorem zq9i:Y C E (n+1) (.code .skip :: k) F H=Y C E n k F H:=rfl
theorem zq9j (l:List XS):Y C E (n+1) (.code (.ops l) :: k) F H=Y C E n (.ops l :: k) F H:=rfl
theorem zq9k (a b:XC):Y C E (n+1) (.code (.seq a b) :: k) F H=Y C E n (.code a :: .code b :: k) F H:=rfl
theorem zq9l (c:Operand) (a b:XC):Y C E (n+1) (.code (.cond c a b) :: k) F H=yIfC c F (YC C E n a k H) (YC C E n b k H) (ev F c):=rfl
theorem zq9m (id:Nat) (a:XC):Y C E (n+1) (.code (.blk id a) :: k) F H=Y C E n (.code a :: .blk id :: k) F H:=rfl
theorem zq9n (id:Nat):Y C E (n+1) (.code (.exit id) :: k) F H=yPop (YP C E n F H) (G C E (.code (.exit id) :: k) { F:=F,H:=H }) (popTo id k):=rfl
theorem zq9o (a:XC):Y C E (n+1) (.code (.loop a) :: k) F H=G C E (.code (.loop a) :: k) { F:=F,H:=H }:=rfl
theorem zq9p (g:Operand) (ps:List Nat) (a b:XC):Y C E (n+1) (.code (.rng g ps a b) :: k) F H=G C E (.code (.rng g ps a b) :: k) { F:=F,H:=H }:=rfl
theorem zq9q:Y C E (n+1) (.code .ret :: k) F H=RetG C E { F:=F,H:=H }:=rfl
theorem zq9r (i:Nat):Y C E (n+1) (.code (.ref i) :: k) F H=Y C E n (.code (C.tab i) :: k) F H:=rfl
theorem zq9s (a:XC):Y C E (n+1) (.code (.scp a) :: k) F H=G C E (.code (.scp a) :: k) { F:=F,H:=H }:=rfl
theorem zq9t:Y C E (n+1) (.code .lab :: k) F H=Y C E n k F H:=rfl
theorem zq9u (id:Nat):Y C E (n+1) (.blk id :: k) F H=Y C E n k F H:=rfl
theorem zq9v (I:Act→World→Prop):Y C E (n+1) (.lend I :: k) F H=G C E (.lend I :: k) { F:=F,H:=H }:=rfl
theorem zq9w:Y C E (n+1) [] F H=G C E [] { F:=F,H:=H }:=rfl
end
section
variable {C:Cx} {E:Env}
theorem zj56 {c:Nat} {F:List (Nat × SV)} {H:List SO} {Kr Ks:List (Nat × SV)→Prop} {w:Bool} {a:Act} {W:World} (rep:Rep E { F:=F,H:=H } a W) (h:yGd c F Kr Ks w (lk F c)) :
  (∃ F',Rep E { F:=F',H:=H } a W∧Kr F'∧a.tmps[c]? = some (.bool w))∨(∃ F',Rep E { F:=F',H:=H } a W∧Ks F'∧∀ b,a.tmps[c]? = some (.bool b)→b=!w):=by
 have hf:Is H (lk F c) (a.tmps.getD c undef):=rep.frame c
 have some_of:∀ b,a.tmps.getD c undef=.bool b→a.tmps[c]? = some (.bool b):=by
  intro b hb
  rw[Array.getD_eq_getD_getElem?] at hb
  cases ht:a.tmps[c]? with
  | none=>rw[ht] at hb; simp[undef] at hb
  | some v=>rw[ht] at hb; simp at hb; rw[hb]
 unfold yGd at h
 split at h <;> rename_i e <;> (try rw[e] at hf) <;> (try simp only[Is] at hf)
 ·exact .inl ⟨F,rep,h,some_of _ hf⟩
 ·exact .inr ⟨F,rep,h,fun b hb=>by rw[some_of _ hf] at hb; injection hb with hb; injection hb with hb; subst hb; rfl⟩
 ·exact .inr ⟨F,rep,h,fun b hb=>by rw[some_of _ hf] at hb; injection hb with hb; injection hb with hb; subst hb; rfl⟩
 ·exact .inl ⟨F,rep,h,some_of _ hf⟩
 ·rename_i b
  cases b
  ·exact .inr ⟨_,rep.tell (d:=c) (sv:=.bf) (by simp only[Is]; exact hf),h.2 rfl,fun b hb=>by rw[some_of _ hf] at hb; injection hb with hb; injection hb with hb; subst hb; rfl⟩
  ·exact .inl ⟨_,rep.tell (d:=c) (sv:=.bt) (by simp only[Is]; exact hf),h.1 rfl,some_of _ hf⟩
 ·rename_i b
  cases b
  ·exact .inl ⟨_,rep.tell (d:=c) (sv:=.bf) (by simp only[Is]; exact hf),h.2 rfl,some_of _ hf⟩
  ·exact .inr ⟨_,rep.tell (d:=c) (sv:=.bt) (by simp only[Is]; exact hf),h.1 rfl,fun b hb=>by rw[some_of _ hf] at hb; injection hb with hb; injection hb with hb; subst hb; rfl⟩
 ·refine .inr ⟨F,rep,h,fun b hb=>?_⟩
  rw[Array.getD_eq_getD_getElem?,hb] at hf; cases hf
 ·exact h.elim
theorem run_k {F:List (Nat × SV)} {H:List SO} {a:Act} {W:World} {ops:Array Oper} {op:Oper} {rest:List RO} {d:Option Nat} {l:List XS} {k:List KI} {x:XK} {K:KT}
  (hK:∀ sv H',K sv H'→G C E (.ops l :: k) { F:=putF F d sv,H:=H' }) (hd:∀ d',op.dst=some d'→d' < E.nt) (hdst:d=op.dst) (hl:cmpL C.P E.nt ops rest=some l) (rep:Rep E { F:=F,H:=H } a W)
  (hk:cmpK C.P op.op=some x) (hw:Region.wanted op (yielded ops a.tmps)=true) (h:yk E F H K x) :
  wpS C.r C.P ops (denK C.tab C.r C.P C.ord E.nt C.Q k) (.op op :: rest) a W:=by
 refine step_k hk rep (zj72 hk rep (yk_xk (s:={ F:=F,H:=H }) h)) hw ?_
 intro v W' sv H' hKs hIs hext hheap
 exact hK sv H' hKs (a.put op.dst v) W' (by rw[hdst]; exact (rep.ext hext hheap).put hd hIs) ops rest hl
theorem run_s {F:List (Nat × SV)} {H:List SO} {a:Act} {W:World} {ops:Array Oper} {op:Oper} {rest:List RO} {d:Option Nat} {l:List XS} {k:List KI}
  (hK:G C E (.ops l :: k) { F:=putF F d (.val undef),H:=H }) (hd:∀ d',op.dst=some d'→d' < E.nt) (hdst:d=op.dst) (hl:cmpL C.P E.nt ops rest=some l) (rep:Rep E { F:=F,H:=H } a W)
  (hw:Region.wanted op (yielded ops a.tmps)=false) :
  wpS C.r C.P ops (denK C.tab C.r C.P C.ord E.nt C.Q k) (.op op :: rest) a W:=by
 refine step_skip hw ?_
 exact hK (a.put op.dst undef) W (by rw[hdst]; exact rep.put hd (by simp[Is])) ops rest hl
theorem run_c {F:List (Nat × SV)} {H:List SO} {a:Act} {W:World} {ops:Array Oper} {op:Oper} {rest:List RO} {d:Option Nat} {i:XI} {l:List XS} {k:List KI}
  (hK:G C E (.ops ({ dst:=d,guard:=none,i:=i } :: l) :: k) { F:=F,H:=H }) (hd:∀ d',op.dst=some d'→d' < E.nt) (hdst:d=op.dst) (hi:cmpI C.P op.op=some i) (hl:cmpL C.P E.nt ops rest=some l)
  (rep:Rep E { F:=F,H:=H } a W) (hw:Region.wanted op (yielded ops a.tmps)=true) :
  wpS C.r C.P ops (denK C.tab C.r C.P C.ord E.nt C.Q k) (.op op :: rest) a W:=by
 refine wpS_noguard hw (hK a W rep ops (.op { op with guard:=none } :: rest) ?_)
 simp only[cmpL,hl]
 have:cmpO C.P E.nt ops (.op { op with guard:=none })=some { dst:=d,guard:=none,i:=i }:=by
  unfold cmpO
  simp only[cmpG,hi,hdst]
  cases hop:op.dst with
  | none=>rfl
  | some d'=>have:=hd d' hop; simp[this]
 rw[this]
theorem zj0w (hord:∀ k,OrdOk C.r C.P C.ord (denK C.tab C.r C.P C.ord E.nt C.Q k)):∀ (n:Nat) (k:List KI) (F:List (Nat × SV)) (H:List SO),Y C E n k F H→G C E k { F:=F,H:=H }
 | 0,k,F,H,h=>h
 | n+1,.ops [] :: k,F,H,h=>by
  intro a W rep
  intro ops ol hol
  obtain rfl:=cmpL_nil hol
  exact zj0w hord n k _ H h a W (rep.frame_of fun d=>zj73 F d C.keep)
 | n+1,.ops ({ dst:=d,guard:=none,i:=.k x } :: l) :: k,F,H,h=>by
  rw[Y_k] at h
  intro a W rep ops ol hol
  obtain⟨q,rest,rfl,ho,hl⟩:=zj11 hol
  obtain⟨op,rfl,hd,hdst,hg,hi⟩:=zj10 ho rfl
  refine run_k (fun sv H=>zj0w hord n (.ops l :: k) (putF F d sv) H) hd hdst hl rep (cmpI_k hi) (zj0r hg a) h
 | n+1,.ops ({ dst:=d,guard:=some (c,w),i:=.k x } :: l) :: k,F,H,h=>by
  rw[Y_gk] at h
  intro a W rep ops ol hol
  obtain⟨q,rest,rfl,ho,hl⟩:=zj11 hol
  obtain⟨op,rfl,hd,hdst,hg,hi⟩:=zj10 ho rfl
  rcases zj56 rep h with⟨F',rep',h',ht⟩ | ⟨F',rep',h',ht⟩
  ·refine run_k (fun sv H=>zj0w hord n (.ops l :: k) (putF F' d sv) H) hd hdst hl rep' (cmpI_k hi) (by rw[zj1t hg,ht]; simp) h'
  ·exact run_s (zj0w hord n (.ops l :: k) _ _ h') hd hdst hl rep' (by
    rw[zj1t hg]; split
    ·rename_i b hb; rw[ht b hb]; cases w <;> rfl
    ·rfl)
 | n+1,.ops ({ dst:=d,guard:=none,i:=.call f as } :: l) :: k,F,H,h=>h
 | n+1,.ops ({ dst:=d,guard:=none,i:=.callv f as } :: l) :: k,F,H,h=>h
 | n+1,.ops ({ dst:=d,guard:=none,i:=.still e x } :: l) :: k,F,H,h=>h
 | n+1,.ops ({ dst:=d,guard:=some (c,w),i:=.still e x } :: l) :: k,F,H,h=>by
  rw[zq9g] at h
  intro a W rep ops ol hol
  obtain⟨q,rest,rfl,ho,hl⟩:=zj11 hol
  obtain⟨op,rfl,hd,hlt,hdst,hg,hi,hr⟩:=zj3s ho rfl
  simp only at hdst; subst hdst
  rcases zj56 rep h with⟨F',rep',h',ht⟩ | ⟨F',rep',h',ht⟩
  ·have h2:=h' a W rep' ops (.chk { op with guard:=none } :: rest) (by
    simp only[cmpL,hl,cmpO,cmpG,hd,hi,hr,decide_eq_true hlt])
   exact⟨fun _=>h2.1 rfl,h2.2⟩
  ·refine⟨fun hw=>?_,zj0w hord n (.ops l :: k) _ _ h' a W rep' ops rest hl⟩
   exfalso
   rw[zj1t hg] at hw
   split at hw
   ·rename_i b hb; have:=ht b hb; rw[this] at hw; cases w <;> simp at hw
   ·cases hw
 | n+1,.ops ({ dst:=d,guard:=some (c,w),i:=.call f as } :: l) :: k,F,H,h=>by
  rw[zq9e] at h
  intro a W rep ops ol hol
  obtain⟨q,rest,rfl,ho,hl⟩:=zj11 hol
  obtain⟨op,rfl,hd,hdst,hg,hi⟩:=zj10 ho rfl
  rcases zj56 rep h with⟨F',rep',h',ht⟩ | ⟨F',rep',h',ht⟩
  ·exact run_c h' hd hdst hi hl rep' (by rw[zj1t hg,ht]; simp)
  ·exact run_s (zj0w hord n (.ops l :: k) _ _ h') hd hdst hl rep' (by
    rw[zj1t hg]; split
    ·rename_i b hb; rw[ht b hb]; cases w <;> rfl
    ·rfl)
 | n+1,.ops ({ dst:=d,guard:=some (c,w),i:=.callv f as } :: l) :: k,F,H,h=>by
  rw[zq9h] at h
  intro a W rep ops ol hol
  obtain⟨q,rest,rfl,ho,hl⟩:=zj11 hol
  obtain⟨op,rfl,hd,hdst,hg,hi⟩:=zj10 ho rfl
  rcases zj56 rep h with⟨F',rep',h',ht⟩ | ⟨F',rep',h',ht⟩
  ·exact run_c h' hd hdst hi hl rep' (by rw[zj1t hg,ht]; simp)
  ·exact run_s (zj0w hord n (.ops l :: k) _ _ h') hd hdst hl rep' (by
    rw[zj1t hg]; split
    ·rename_i b hb; rw[ht b hb]; cases w <;> rfl
    ·rfl)
 | n+1,.code .skip :: k,F,H,h=>by
  intro a W rep m c hc
  rw[expand_skip] at hc
  have hc':c=.skip:=cmp_skip hc
  subst hc'
  exact wpIn_skip (zj0w hord n k F H h a W rep)
 | n+1,.code (.ops l) :: k,F,H,h=>by
  intro a W rep m c hc
  rw[expand_ops] at hc
  have hG:=zj0w hord n (.ops l :: k) F H h
  rcases cmp_ops hc with⟨id,ops,rfl,hl⟩ | ⟨id,ops,is,ol,rfl,ho,hp,hl⟩
  ·exact wpIn_region_list (wpS_list _ _ _ (hG a W rep ops (ops.toList.map .op) hl))
  ·refine (hord k).one id ops is ol a W ho hp fun W' e1 e2 e3 e4=>?_
   exact hG a W' ⟨rep.size,rep.frame,rep.defers,rep.heap.drawn e1 e2 e3 e4⟩ ops ol hl
 | n+1,.code (.seq x y) :: k,F,H,h=>by
  intro a W rep m c hc
  rw[expand_seq] at hc
  obtain⟨c1,c2,rfl,h1,h2⟩:=cmp_seq hc
  refine wpIn_seq ?_
  have:=zj0w hord n (.code x :: .code y :: k) F H h a W rep m c1 h1
  refine wpIn_mono this fun e a' w' hq=>?_
  cases e with
  | normal=>exact hq m c2 h2
  | _=>exact hq
 | n+1,.code (.cond c x y) :: k,F,H,h=>by
  intro a W rep m cc hc
  rw[expand_cond] at hc
  obtain⟨c1,c2,rfl,h1,h2⟩:=cmp_cond hc
  have hx:=rep.ev c
  rw[zq9l] at h
  unfold yIfC at h
  split at h
  ·rename_i e; rw[e] at hx; simp only[Is] at hx
   exact wpIn_cond_true hx (zj0w hord n (.code x :: k) _ _ h a W rep m c1 h1)
  ·rename_i e; rw[e] at hx; simp only[Is] at hx
   exact wpIn_cond_false hx (zj0w hord n (.code y :: k) _ _ h a W rep m c2 h2)
  ·rename_i b e; rw[e] at hx; simp only[Is] at hx
   cases b
   ·exact wpIn_cond_false hx (zj0w hord n (.code y :: k) _ _ (h.2 rfl) a W (rep.tellB hx (by simp[Is])) m c2 h2)
   ·exact wpIn_cond_true hx (zj0w hord n (.code x :: k) _ _ (h.1 rfl) a W (rep.tellB hx (by simp[Is])) m c1 h1)
  ·exact h.elim
 | n+1,.code (.blk id x) :: k,F,H,h=>by
  intro a W rep m c hc
  rw[expand_blk] at hc
  obtain⟨c1,rfl,h1⟩:=cmp_blk hc
  exact wpIn_block (zj0w hord n (.code x :: .blk id :: k) F H h a W rep m c1 h1)
 | n+1,.code (.exit id) :: k,F,H,h=>by
  rw[zq9n] at h
  unfold yPop at h
  split at h
  ·rename_i k' hk
   intro a W rep m c hc
   rw[expand_exit] at hc
   obtain rfl:=cmp_exit hc
   exact wpIn_exit (zj3r id k k' hk (zj0w hord n k' F H h a W rep))
  ·exact h
 | _+1,.code (.loop x) :: k,F,H,h=>h
 | _+1,.code (.rng g ps x y) :: k,F,H,h=>h
 | _+1,.code .ret :: k,F,H,h=>by
  intro a W rep m c hc
  rw[expand_ret] at hc
  obtain rfl:=cmp_ret hc
  refine wpIn_ret ?_
  rw[zj5s]
  exact h a W rep
 | n+1,.code (.ref i) :: k,F,H,h=>by
  intro a W rep m c hc
  have hG:=zj0w hord n (.code (C.tab i) :: k) F H h
  cases m with
  | zero=>exact (cmp_ref hc).elim
  | succ m=>exact hG a W rep m c hc
 | _+1,.code (.scp a) :: k,F,H,h=>h
 | _+1,.code (.alt m t) :: k,F,H,h=>h
 | n+1,.code .lab :: k,F,H,h=>by
  intro a W rep m c hc
  rw[expand_lab] at hc
  obtain⟨l,rfl⟩:=cmp_lab hc
  exact wpIn_label (zj0w hord n k F H h a W rep)
 | n+1,.blk _ :: k,F,H,h=>fun a W rep=>zj0w hord n k F H h a W rep
 | _+1,.lend I :: k,F,H,h=>h
 | _+1,[],F,H,h=>h
end
theorem Y_run {C:Cx} {E:Env} (ho:C.ord=zj0p) (hQ:zj0e C.Q) (n:Nat) {k:List KI} {s:SS} (h:Y C E n k s.F s.H):G C E k s :=
 zj0w (fun k=>by rw[ho]; exact ordOk (zj13 hQ k)) n k s.F s.H h
theorem Y_go {P:Program} {fn:Func} {keep:List Nat} {tab:Nat→XC} {R:Value→World→Prop} {E:Env} (n:Nat) {k:List KI} {s:SS} (h:Y (cxOf P fn keep tab R) E n k s.F s.H):G (cxOf P fn keep tab R) E k s :=
 Y_run rfl (zj2c P fn R) n h
def zm (d s:Nat):XS:=⟨some d,none,.k (.mov (.tmp s))⟩
def zx (d:Nat) (x:XK):XS:=⟨some d,none,.k x⟩
def zl (d s:Nat):XS:=⟨some d,none,.k (.load [.int .i64] false (.tmp s))⟩
def zc (d:Nat) (f:FuncId) (a:List Operand):XS:=⟨some d,none,.call f a⟩
def zn (x:XK):XS:=⟨none,none,.k x⟩
def zg (d c:Nat) (b:Bool) (x:XK):XS:=⟨some d,some (c,b),.k x⟩
def zh (d c:Nat) (b:Bool) (s:Nat):XS:=⟨some d,some (c,b),.k (.mov (.tmp s))⟩
def zi (d s:Nat):XS:=⟨some d,none,.k (.load [.int .i64,.int .i64,.int .i64,.int .i64,.int .i64] true (.tmp s))⟩
def zd (d k a b:Nat):XS:=⟨some d,none,.k (.idx k (.tmp a) (.tmp b))⟩
def zk (d:Nat) (o:BinOp) (a b:Nat):XS:=⟨some d,none,.k (.cmp o .i64 (.tmp a) (.tmp b))⟩
def zf (d k a:Nat):XS:=⟨some d,none,.k (.fld k (.tmp a))⟩
def ze (d a:Nat):XS:=⟨some d,none,.k (.lenS (.tmp a))⟩
def zp (d a:Nat):XS:=⟨some d,none,.k (.arith .add .i64 (.tmp a) (.const (.int .i64 1)))⟩
def zy (d a k:Nat):XS:=⟨some d,none,.k (.ext (.tmp a) k)⟩
def _root_.Go.Operand.t (n:Nat):Operand:=.tmp n
def _root_.Go.Operand.i (n:Int):Operand:=.const (.int .i64 n)
def zv (d:Nat) (v:Value):XS:=⟨some d,none,.k (.mov (.const v))⟩
def zs (l:List XS) (c:XC):XC:=.seq (.ops l) c
def zS (t a b:Nat):XS:=⟨none,none,.k (.store t (.tmp a) (.tmp b))⟩
def zK (d:Nat) (o:BinOp) (a:Nat) (n:Int):XS:=⟨some d,none,.k (.cmp o .i64 (.tmp a) (.const (.int .i64 n)))⟩
def zG (d c:Nat) (b:Bool) (o:BinOp) (a:Nat) (n:Int):XS:=⟨some d,some (c,b),.k (.cmp o .i64 (.tmp a) (.const (.int .i64 n)))⟩
def zA (d a b:Nat):XS:=⟨some d,none,.k (.pick (.tmp a) (.tmp b) (.const (.bool false)))⟩
def zO (d a b:Nat):XS:=⟨some d,none,.k (.pick (.tmp a) (.const (.bool true)) (.tmp b))⟩
def zL (d:Nat) (l:List CK) (a:Nat):XS:=⟨some d,none,.k (.load l false (.tmp a))⟩
def zw (a:Nat) (x y:XC):XC:=.cond (.tmp a) x y
attribute [go_sem] Go.Operand.t Go.Operand.i zv zs zS zK zG zA zO zL zw
def lkT:Nat→List XC→XC
 | _,[]=>.skip
 | 0,a :: _=>a
 | n+1,_ :: l=>lkT n l
theorem lkTz (a:XC) (l:List XC):lkT 0 (a :: l)=a:=rfl
theorem lkTs (n:Nat) (a:XC) (l:List XC):lkT (n+1) (a :: l)=lkT n l:=rfl
attribute [go_sem ↓] lkTz lkTs
attribute [go_sem] zm zx zl zc zn zg zh zi zd zk zf ze zp zy zq00 zq01 zq02 zq03 zq04 zq05 zq06 zq07 zq08 zq09 zq0a zq0b zq0c zq0e zq0f zq0g zq0h zq0i zq0l zq0m zq0n zq0o zq0p zq0q zq0r zq0s zq0t zq0u zq0v zq0w zq0x zq0y zq10 zq12 zq13 zq14 zq15 zq16 zq17 zq18 zq19 zq1a zq1b zq1c zq1d zq1e zq1g zq1i zq1k zq1l zq1m zq1n zq1o zq1p zq1q zq1r zq1s zq1t zq1u zq1v zq1w zq1x zq1y zq1z zq20 zq21 zq22 zq23 zq24 zq25 zq26 zq29 zq2b zq2e zq2f zq2h zq2i zq2j zq2k zq2l zq2n zq2o zq2r zq2s zq2t zq2u zq2w zq2x zq2y zq37 zq38 zq39 zq3a zq3b zq3c zq3e zq3g zq3h zq3i zq3j zq3k zq3l zq3m zq3n zq3o zq3p zq3q zq3w zq44 zq45 zq48 zq49 zq4a zq4b zq4d zq4e zq4f zq4g zq4h zq4i zq4j zq4o zq4p zq4q zq4r zq4s zq4t zq4u zq4v zq4w zq4x zq4y zq4z zq50 zq51 zq52 zq53 zq54 zq55 zq56 zq57 zq58 zq59 zq5a zq5b zq5c zq5d zq5e zq5f zq5g zq5h zq5i zq5j zq5k zq5l zq5m zq5n zq5o zq5p zq5q zq5r zq5s zq5t zq5u zq5v zq5w zq5x zq5y zq5z zq60 zq61 zq62 zq63 zq64 zq65 zq66 zq67 zq68 zq69 zq6a zq6b zq6d zq6e zq6f zq6g zq6h zq6i zq6j zq6l zq6m zq6n zq6o zq6r zq6w zq6y zq6z zq70 zq73 zq79 zq7a zq7b zq7d zq7e zq7f zq7g zq7i zq7m zq7n zq7o zq7p zq7r zq7s zq7t zq7u zq7w zq7z zq80 zq81 zq82 zq83 zq84 zq85 zq86 zq87 zq88 zq8a zq8c zq8d zq8e zq8f zq8h zq8i zq8j zq8k zq8l zq8m zq8o zq8p zq8q zq8v zq8w zq8z zq91 zq92 zq93 zq94 zq95 zq96 zq97 zq98 zq99 zq9a zq9b Y_k Y_gk zq9c zq9d zq9e zq9f zq9h zq9i zq9j zq9k zq9l zq9m zq9n zq9o zq9p zq9q zq9r zq9s zq9t zq9u zq9v zq9w YK YR YS YG YC YP normF popTo nth setn evL takeL dropL splice repL denL den blk eqSV List.map List.length List.cons_append List.nil_append List.length_cons List.length_nil Nat.add_zero leF scp scpL scpO resF resH resO resV resVL decide_true decide_false Bool.and_self Bool.and_true and_true true_and numF
end Go.Sx
