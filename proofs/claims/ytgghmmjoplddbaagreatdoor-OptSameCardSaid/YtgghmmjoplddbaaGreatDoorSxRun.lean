/- The engine, part 7: code, its run on symbolic states, and that it is so. -/
import Derived.Test.YtgghmmjoplddbaaGreatDoorSxSound4
set_option linter.unusedSimpArgs false
set_option linter.unusedVariables false
set_option linter.unnecessarySimpa false
namespace Go.Sx
inductive XI where
 | k (x:XK)
 | call (f:FuncId) (args:List Operand)
 | callv (f:Operand) (args:List Operand)
 | still (d:Nat) (x:XK)
structure XS where
 dst:Option Nat
 guard:Option (Nat × Bool)
 i:XI
inductive XT where
 | done
 | seq (x:XS) (k:Nat) (t:XT)
 | alt (a b:XT)
inductive XC where
 | skip
 | alt (n:Nat) (t:XT)
 | ops (l:List XS)
 | seq (a b:XC)
 | cond (c:Operand) (a b:XC)
 | blk (id:Nat) (a:XC)
 | loop (a:XC)
 | exit (id:Nat)
 | ret
 | ref (i:Nat)
 | rng (g:Operand) (ps:List Nat) (a b:XC)
 | scp (a:XC)
 | lab
def XC.subst (f:Nat→XC):XC→XC
 | .skip=>.skip
 | .alt n t=>.alt n t
 | .ops l=>.ops l
 | .seq a b=>.seq (a.subst f) (b.subst f)
 | .cond c a b=>.cond c (a.subst f) (b.subst f)
 | .blk id a=>.blk id (a.subst f)
 | .loop a=>.loop (a.subst f)
 | .exit id=>.exit id
 | .ret=>.ret
 | .ref i=>f i
 | .rng g ps a b=>.rng g ps (a.subst f) (b.subst f)
 | .scp a=>.scp (a.subst f)
 | .lab=>.lab
def expand (T:Nat→XC):Nat→XC→XC
 | 0,x=>x
 | n+1,x=>x.subst fun i=>expand T n (T i)
section
variable (T:Nat→XC) (n:Nat)
theorem expand_seq (a b:XC):expand T n (.seq a b)=.seq (expand T n a) (expand T n b):=by cases n <;> rfl
theorem expand_cond (c:Operand) (a b:XC):expand T n (.cond c a b)=.cond c (expand T n a) (expand T n b):=by cases n <;> rfl
theorem expand_blk (id:Nat) (a:XC):expand T n (.blk id a)=.blk id (expand T n a):=by cases n <;> rfl
theorem expand_loop (a:XC):expand T n (.loop a)=.loop (expand T n a):=by cases n <;> rfl
theorem expand_rng (g:Operand) (ps:List Nat) (a b:XC):expand T n (.rng g ps a b)=.rng g ps (expand T n a) (expand T n b):=by cases n <;> rfl
theorem expand_scp (a:XC):expand T n (.scp a)=.scp (expand T n a):=by cases n <;> rfl
theorem expand_lab:expand T n .lab=.lab:=by cases n <;> rfl
theorem expand_alt (m:Nat) (t:XT):expand T n (.alt m t)=.alt m t:=by cases n <;> rfl
theorem expand_ops (l:List XS):expand T n (.ops l)=.ops l:=by cases n <;> rfl
theorem expand_skip:expand T n .skip=.skip:=by cases n <;> rfl
theorem expand_ret:expand T n .ret=.ret:=by cases n <;> rfl
theorem expand_exit (id:Nat):expand T n (.exit id)=.exit id:=by cases n <;> rfl
end
def cmpI (P:Program) (op:Op):Option XI:=match cmpK P op with
 | some k=>some (.k k)
 | none=>match op with
  | .call c=>(match c.callee with
   | .value (.func f)=>(match fnOk P f with | true=>some (.call f c.args.toList) | false=>none)
   | .value (.tmp t)=>some (.callv (.tmp t) c.args.toList)
   | _=>none)
  | _=>none
def cmpG (ops:Array Oper):Option (Nat × Bool)→Option (Option (Nat × Bool))
 | none=>some none
 | some (j,want)=>match (ops[j]?).bind (·.dst) with | some d=>some (some (d,want)) | none=>none
inductive RO where
 | op (o:Oper)
 | chk (o:Oper)
def cmpO (P:Program) (nt:Nat) (ops:Array Oper):RO→Option XS
 | .op o=>(match (match o.dst with | some d=>decide (d < nt) | none=>true),cmpG ops o.guard,cmpI P o.op with
  | true,some g,some i=>some { dst:=o.dst,guard:=g,i }
  | _,_,_=>none)
 | .chk o=>(match o.dst,cmpG ops o.guard,cmpK P o.op with
  | some d,some g,some x=>(match decide (d < nt),readK x with | true,true=>some { dst:=none,guard:=g,i:=.still d x } | _,_=>none)
  | _,_,_=>none)
def cmpL (P:Program) (nt:Nat) (ops:Array Oper):List RO→Option (List XS)
 | []=>some []
 | o :: l=>match cmpO P nt ops o,cmpL P nt ops l with | some x,some xs=>some (x :: xs) | _,_=>none
def chkL (ops:Array Oper):List Nat→List RO→Option (List RO)
 | [],r=>some r
 | i :: l,r=>match ops[i]?,chkL ops l r with | some o,some r=>some (.chk o :: r) | _,_=>none
def pickL (ops:Array Oper):List (Nat × List Nat)→Option (List RO)
 | []=>some []
 | (i,fr) :: l=>match ops[i]?,pickL ops l with
  | some o,some r=>(match chkL ops fr r with | some r=>some (.op o :: r) | none=>none)
  | _,_=>none
inductive RT where
 | done
 | seq (i:Nat) (f:List Nat) (t:RT)
 | alt (a b:RT)
inductive ROT where
 | done
 | seq (q:RO) (k:Nat) (t:ROT)
 | alt (a b:ROT)
def chkT (ops:Array Oper):List Nat→ROT→Option ROT
 | [],r=>some r
 | i :: l,r=>match ops[i]?,chkT ops l r with | some o,some r=>some (.seq (.chk o) i r) | _,_=>none
def pickT (ops:Array Oper):RT→Option ROT
 | .done=>some .done
 | .seq i fr t=>(match ops[i]?,pickT ops t with
  | some o,some r=>(match chkT ops fr r with | some r=>some (.seq (.op o) i r) | none=>none)
  | _,_=>none)
 | .alt a b=>(match pickT ops a,pickT ops b with | some a,some b=>some (.alt a b) | _,_=>none)
def cmpT (P:Program) (nt:Nat) (ops:Array Oper):ROT→Option XT
 | .done=>some .done
 | .seq q k t=>(match cmpO P nt ops q,cmpT P nt ops t with | some x,some t=>some (.seq x k t) | _,_=>none)
 | .alt a b=>(match cmpT P nt ops a,cmpT P nt ops b with | some a,some b=>some (.alt a b) | _,_=>none)
inductive Ord where
 | one (l:List (Nat × List Nat))
 | tree (t:RT)
abbrev Order:=Program→Array Oper→Option Ord
def cmp (P:Program) (ord:Order) (nt:Nat):Code→Option XC
 | .skip=>some .skip
 | .region _ ops false=>(match cmpL P nt ops (ops.toList.map .op) with | some l=>some (.ops l) | none=>none)
 | .region _ ops true=>(match ord P ops with
   | some (.one is)=>(match pickL ops is with
    | some ol=>(match cmpL P nt ops ol with | some l=>some (.ops l) | none=>none)
    | none=>none)
   | some (.tree T)=>(match pickT ops T with
    | some rt=>(match cmpT P nt ops rt with | some t=>some (.alt ops.size t) | none=>none)
    | none=>none)
   | none=>none)
 | .seq a b=>(match cmp P ord nt a,cmp P ord nt b with | some x,some y=>some (.seq x y) | _,_=>none)
 | .cond c a b=>(match cmp P ord nt a,cmp P ord nt b with | some x,some y=>some (.cond c x y) | _,_=>none)
 | .block id a=>(match cmp P ord nt a with | some x=>some (.blk id x) | none=>none)
 | .loop a=>(match cmp P ord nt a with | some x=>some (.loop x) | none=>none)
 | .exit id=>some (.exit id)
 | .ret=>some .ret
 | .rangeFunc g ps a b=>(match cmp P ord nt a,cmp P ord nt b with | some x,some y=>some (.rng g ps.toList x y) | _,_=>none)
 | .scope a=>(match cmp P ord nt a with | some x=>some (.scp x) | none=>none)
 | .label _=>some .lab
 | _=>none
inductive KI where
 | code (c:XC)
 | ops (l:List XS)
 | blk (id:Nat)
 | lend (I:Act→World→Prop)
abbrev Post:=Exit→Act→World→Prop
def cl (P:Program) (o:Oper):Nat:=match cmpK P o.op with
 | some x=>if pureK x then 0 else if readK x then 1 else 2
 | none=>2
def stepS (r:Option Nat) (P:Program) (ops:Array Oper) (Q:Post) (o:Oper) (K:Act→World→Prop) (a:Act) (w:World):Prop :=
 if Region.wanted o (yielded ops a.tmps) then
  (match cl P o with
   | 0=>∃ v,(∀ W2:World,(execOp a.eval o).run P W2=.ok (.value v) W2)∧K (a.put o.dst v) w
   | 1=>∃ v,(∀ W2,Grow w W2→(execOp a.eval o).run P W2=.ok (.value v) W2)∧K (a.put o.dst v) w
   | _=>o.wpIn (WF r) 0 P a w K Q)
 else K (a.put o.dst undef) w
def StillAt (P:Program) (ops:Array Oper) (o:Oper) (a:Act) (w:World):Prop :=
 Region.wanted o (yielded ops a.tmps)=true→∀ d,o.dst=some d→∀ W2,Grow w W2→(execOp a.eval o).run P W2=.ok (.value (a.tmps.getD d undef)) W2
def wpS (r:Option Nat) (P:Program) (ops:Array Oper) (Q:Post):List RO→Act→World→Prop
 | []=>Q .normal
 | .op o :: rest=>stepS r P ops Q o (wpS r P ops Q rest)
 | .chk o :: rest=>fun a w=>StillAt P ops o a w∧wpS r P ops Q rest a w
def wpR (r:Option Nat) (P:Program) (ops:Array Oper) (Q:Post):ROT→Act→World→Prop
 | .done=>Q .normal
 | .seq (.op o) _ t=>stepS r P ops Q o (wpR r P ops Q t)
 | .seq (.chk o) _ t=>fun a w=>StillAt P ops o a w∧wpR r P ops Q t a w
 | .alt x y=>fun a w=>wpR r P ops Q x a w∧wpR r P ops Q y a w
def denK (T:Nat→XC) (r:Option Nat) (P:Program) (ord:Order) (nt:Nat) (Q:Post):List KI→Post
 | []=>Q
 | .code c :: k=>Exit.then (fun a W=>∀ n c',cmp P ord nt c'=some (expand T n c)→c'.wpIn (WF r) 0 P (denK T r P ord nt Q k) a W) (denK T r P ord nt Q k)
 | .ops l :: k=>Exit.then (fun a W=>∀ ops ol,cmpL P nt ops ol=some l→wpS r P ops (denK T r P ord nt Q k) ol a W) (denK T r P ord nt Q k)
 | .blk id :: k=>Exit.inBlock id (denK T r P ord nt Q k)
 | .lend I :: k=>Exit.then I (denK T r P ord nt Q k)
structure Cx where
 r:Option Nat
 P:Program
 ord:Order
 Q:Post
 keep:List Nat
 tab:Nat→XC
def G (C:Cx) (E:Env) (k:List KI) (s:SS):Prop:=∀ a W,Rep E s a W→denK C.tab C.r C.P C.ord E.nt C.Q k .normal a W
def RetG (C:Cx) (E:Env) (s:SS):Prop:=∀ a W,Rep E s a W→C.Q .ret a W
def nz (d:Nat):SV→List (Nat × SV)→List (Nat × SV)
 | .unk,l=>l
 | v,l=>(d,v) :: l
def normF (F:List (Nat × SV)):List Nat→List (Nat × SV)
 | []=>[]
 | d :: l=>nz d (lk F d) (normF F l)
theorem lk_nz (d e:Nat) (v:SV) (l:List (Nat × SV)):lk (nz d v l) e=lk l e∨(d=e∧lk (nz d v l) e=v):=by
 unfold nz
 split
 ·exact .inl rfl
 ·simp only[lk]
  cases h:d == e with
  | true=>exact .inr ⟨by simpa using h,rfl⟩
  | false=>exact .inl rfl
theorem zj73 (F:List (Nat × SV)) (d:Nat):∀ l,lk (normF F l) d=.unk∨lk (normF F l) d=lk F d
 | []=>.inl rfl
 | e :: l=>by
  simp only[normF]
  rcases lk_nz e d (lk F e) (normF F l) with h | ⟨he,h⟩
  ·rw[h]; exact zj73 F d l
  ·subst he; rw[h]; exact .inr rfl
def popTo (id:Nat):List KI→Option (List KI)
 | []=>none
 | .blk j :: k=>match j == id with | true=>some k | false=>popTo id k
 | _ :: k=>popTo id k
def tellB (F:List (Nat × SV)):Operand→SV→List (Nat × SV)
 | .tmp d,v=>(d,v) :: F
 | _,_=>F
theorem notDefer {P:Program} {op:Op} {x:XK} (h:cmpK P op=some x):∀ c,op ≠ .defer c:=by
 intro c e; subst e
 have:(none:Option XK)=some x:=h
 cases this
section
variable {T:Nat→XC} {r:Option Nat} {P:Program} {ord:Order} {nt:Nat} {Q:Post} {a:Act} {W:World}
theorem zj5s:∀ k,denK T r P ord nt Q k .ret a W=Q .ret a W
 | []=>rfl
 | .code _ :: k=>zj5s k
 | .ops _ :: k=>zj5s k
 | .blk _ :: k=>zj5s k
 | .lend _ :: k=>zj5s k
theorem zj3r (id:Nat):∀ (k k':List KI),popTo id k=some k'→denK T r P ord nt Q k' .normal a W→denK T r P ord nt Q k (.exit id) a W
 | [],k',h,_=>by cases h
 | .blk j :: k,k',h,hq=>by
  simp only[popTo] at h
  show Exit.inBlock j (denK T r P ord nt Q k) (.exit id) a W
  simp only[Exit.inBlock]
  split at h
  ·rename_i hb
   injection h with h; subst h
   have:j=id:=by simpa using hb
   rw[if_pos this.symm]; exact hq
  ·rename_i hb
   have:¬ id=j:=by intro e; subst e; simp at hb
   rw[if_neg this]; exact zj3r id k k' h hq
 | .code c :: k,k',h,hq=>zj3r id k k' h hq
 | .ops l :: k,k',h,hq=>zj3r id k k' h hq
 | .lend I :: k,k',h,hq=>zj3r id k k' h hq
theorem zj1k {o:Oper} (h:cl P o≤1):∀ c,o.op ≠ .defer c:=by
 unfold cl at h
 split at h
 ·rename_i x hx; exact notDefer hx
 ·omega
theorem zj0n {o:Oper} {ops:Array Oper} {Q':Post} {K K':Act→World→Prop} (hk:∀ a w,K a w→K' a w) (h:stepS r P ops Q' o K a W):stepS r P ops Q' o K' a W:=by
 unfold stepS at *
 split at h
 ·rename_i hw
  rw[if_pos hw]
  split at h
  ·obtain⟨v,h1,h2⟩:=h; exact⟨v,h1,hk _ _ h2⟩
  ·obtain⟨v,h1,h2⟩:=h; exact⟨v,h1,hk _ _ h2⟩
  ·exact Oper.wpIn_mono hk h
 ·rename_i hw
  rw[if_neg hw]; exact hk _ _ h
theorem wpS_list {ops:Array Oper} {Q':Post}:∀ (l:List Oper) (a:Act) (W:World),wpS r P ops Q' (l.map .op) a W→wpListIn (WF r) 0 P ops Q' l a W
 | [],a,W,h=>h
 | o :: l,a,W,h=>by
  have h':=zj0n (K':=wpListIn (WF r) 0 P ops Q' l) (wpS_list l) h
  unfold stepS at h'
  simp only[wpListIn]
  split at h'
  ·rename_i hw
   rw[if_pos hw]
   split at h'
   ·rename_i hcl
    obtain⟨v,h1,h2⟩:=h'
    refine⟨fun _ _=>trivial,?_⟩
    rw[Oper.semAt_eq _ _ _ (zj1k (P:=P) (by omega)),h1 W]; exact h2
   ·rename_i hcl
    obtain⟨v,h1,h2⟩:=h'
    refine⟨fun _ _=>trivial,?_⟩
    rw[Oper.semAt_eq _ _ _ (zj1k (P:=P) (by omega)),h1 W (Grow.refl W)]; exact h2
   ·exact h'
  ·rename_i hw
   rw[if_neg hw]; exact⟨fun _ _=>trivial,h'⟩
theorem step_k {E:Env} {s:SS} {Kx:SV→List SO→Prop} {o:Oper} {ops:Array Oper} {x:XK} {K:Act→World→Prop} {Q':Post} (hx:cmpK P o.op=some x) (rep:Rep E s a W)
  (hr:ResK E P s Kx o a W x) (hw:Region.wanted o (yielded ops a.tmps)=true)
  (h:∀ v W' sv H',Kx sv H'→Is H' sv v→HExt s.H H'→HeapOk E H' W'→K (a.put o.dst v) W'):stepS r P ops Q' o K a W:=by
 unfold stepS
 rw[if_pos hw]
 have hcl:cl P o=(if pureK x then 0 else if readK x then 1 else 2):=by unfold cl; rw[hx]
 unfold ResK at hr
 split at hr
 ·rename_i hp
  rw[hcl,if_pos hp]
  obtain⟨v,sv,h1,h2,h3⟩:=hr
  exact⟨v,h1,h v W sv s.H h2 h3 (HExt.refl _) rep.heap⟩
 ·rename_i hp
  rw[hcl,if_neg hp]
  split at hr
  ·rename_i hq
   rw[if_pos hq]
   obtain⟨v,sv,h1,h2,h3⟩:=hr
   exact⟨v,h1,h v W sv s.H h2 h3 (HExt.refl _) rep.heap⟩
  ·rename_i hq
   rw[if_neg hq]
   obtain⟨v,W',sv,H',hran,h1,h2,h3,h4⟩:=hr
   have:=h v W' sv H' h1 h2 h3 h4
   refine⟨fun _ _=>trivial,?_⟩
   rw[Oper.semAt_eq _ _ _ (notDefer hx)]
   rcases hran with e | ⟨e,rfl⟩
   ·rw[e]; exact this
   ·rw[e]; exact this
theorem step_skip {o:Oper} {ops:Array Oper} {rest:List RO} {Q':Post} (hw:Region.wanted o (yielded ops a.tmps)=false)
  (h:wpS r P ops Q' rest (a.put o.dst undef) W):wpS r P ops Q' (.op o :: rest) a W:=by
 simp only[wpS,stepS,hw,Bool.false_eq_true,if_false]
 exact h
def XI.isStill:XI→Bool
 | .still ..=>true
 | _=>false
theorem zj5t {P:Program} {op:Op} {x:XI} (h:cmpI P op=some x):x.isStill=false:=by
 unfold cmpI at h
 repeat' (split at h)
 all_goals first | (cases h; done) | (injection h with h; subst h; rfl)
theorem zj10 {P:Program} {nt:Nat} {ops:Array Oper} {q:RO} {x:XS} (h:cmpO P nt ops q=some x) (hs:x.i.isStill=false) :
  ∃ o,q=.op o∧(∀ d,o.dst=some d→d < nt)∧x.dst=o.dst∧cmpG ops o.guard=some x.guard∧cmpI P o.op=some x.i:=by
 cases q with
 | op o =>
  simp only[cmpO] at h
  split at h
  ·rename_i g i h1 h2 h3
   injection h with h; subst h
   refine⟨o,rfl,fun d hd=>?_,rfl,h2,h3⟩
   rw[hd] at h1; simpa using h1
  ·cases h
 | chk o =>
  simp only[cmpO] at h
  split at h
  ·split at h
   ·injection h with h; subst h; cases hs
   ·cases h
  ·cases h
theorem zj3s {P:Program} {nt:Nat} {ops:Array Oper} {q:RO} {x:XS} {d:Nat} {xk:XK} (h:cmpO P nt ops q=some x) (hs:x.i=.still d xk) :
  ∃ o,q=.chk o∧o.dst=some d∧d < nt∧x.dst=none∧cmpG ops o.guard=some x.guard∧cmpK P o.op=some xk∧readK xk=true:=by
 cases q with
 | op o =>
  simp only[cmpO] at h
  split at h
  ·rename_i g i h1 h2 h3
   injection h with h; subst h
   have:=zj5t h3
   simp only at hs
   rw[hs] at this; cases this
  ·cases h
 | chk o =>
  simp only[cmpO] at h
  split at h
  ·rename_i d' g x' h1 h2 h3
   split at h
   ·rename_i h4 h5
    injection h with h; subst h
    simp only at hs
    injection hs with e1 e2; subst e1; subst e2
    exact⟨o,rfl,h1,by simpa using h4,rfl,h2,h3,h5⟩
   ·cases h
  ·cases h
theorem zj11 {P:Program} {nt:Nat} {ops:Array Oper} {ol:List RO} {x:XS} {l:List XS} (h:cmpL P nt ops ol=some (x :: l)) :
  ∃ o rest,ol=o :: rest∧cmpO P nt ops o=some x∧cmpL P nt ops rest=some l:=by
 cases ol with
 | nil=>simp[cmpL] at h
 | cons o rest =>
  simp only[cmpL] at h
  split at h
  ·rename_i y ys h1 h2
   injection h with h; injection h with e1 e2; subst e1; subst e2
   exact⟨o,rest,rfl,h1,h2⟩
  ·cases h
theorem cmpL_nil {P:Program} {nt:Nat} {ops:Array Oper} {ol:List RO} (h:cmpL P nt ops ol=some []):ol=[]:=by
 cases ol with
 | nil=>rfl
 | cons o rest =>
  simp only[cmpL] at h
  split at h <;> simp at h
theorem zj1t {ops:Array Oper} {o:Oper} {d:Nat} {want:Bool} (hg:cmpG ops o.guard=some (some (d,want))) (a:Act) :
  Region.wanted o (yielded ops a.tmps)=(match a.tmps[d]? with | some (.bool b)=>b == want | _=>false):=by
 unfold cmpG at hg
 split at hg
 ·cases hg
 ·rename_i j w hgd
  split at hg
  ·rename_i d' hd
   injection hg with hg; injection hg with hg; injection hg with e1 e2; subst e1; subst e2
   simp only[Region.wanted,hgd,yielded,hd,Option.bind_some]
   split
   ·rename_i b hb; cases b <;> cases w <;> simp[hb]
   ·rename_i hb
    split
    ·rename_i b hb'; exact absurd hb' (by intro e; exact hb b e)
    ·rfl
  ·cases hg
theorem zj0r {ops:Array Oper} {o:Oper} (hg:cmpG ops o.guard=some none) (a:Act):Region.wanted o (yielded ops a.tmps)=true:=by
 unfold cmpG at hg
 split at hg
 ·rename_i h; simp[Region.wanted,h]
 ·split at hg <;> cases hg
theorem cmpI_k {P:Program} {op:Op} {x:XK} (h:cmpI P op=some (.k x)):cmpK P op=some x:=by
 unfold cmpI at h
 split at h
 ·rename_i k hk; injection h with h; injection h with h; subst h; exact hk
 ·split at h
  ·split at h
   ·split at h
    ·injection h with h; cases h
    ·cases h
   ·injection h with h; cases h
   ·cases h
  ·cases h
end
section
variable {P:Program} {ord:Order} {nt:Nat}
theorem cmp_skip {c:Code} (h:cmp P ord nt c=some .skip):c=.skip:=by
 cases c with
 | skip=>rfl
 | region id ops d=>cases d <;> simp only[cmp] at h <;> (repeat' split at h) <;> simp at h
 | _=>simp only[cmp] at h <;> (repeat' split at h) <;> simp at h
theorem cmp_exit {c:Code} {id:Nat} (h:cmp P ord nt c=some (.exit id)):c=.exit id:=by
 cases c with
 | exit j=>simp only[cmp] at h; injection h with h; injection h with h; subst h; rfl
 | region id ops d=>cases d <;> simp only[cmp] at h <;> (repeat' split at h) <;> simp at h
 | _=>simp only[cmp] at h <;> (repeat' split at h) <;> simp at h
theorem cmp_ret {c:Code} (h:cmp P ord nt c=some .ret):c=.ret:=by
 cases c with
 | ret=>rfl
 | region id ops d=>cases d <;> simp only[cmp] at h <;> (repeat' split at h) <;> simp at h
 | _=>simp only[cmp] at h <;> (repeat' split at h) <;> simp at h
theorem cmp_seq {c:Code} {x y:XC} (h:cmp P ord nt c=some (.seq x y)):∃ c1 c2,c=.seq c1 c2∧cmp P ord nt c1=some x∧cmp P ord nt c2=some y:=by
 cases c with
 | seq c1 c2 =>
  simp only[cmp] at h
  split at h
  ·rename_i h1 h2; injection h with h; injection h with e1 e2; subst e1; subst e2; exact⟨c1,c2,rfl,h1,h2⟩
  ·cases h
 | region id ops d=>cases d <;> simp only[cmp] at h <;> (repeat' split at h) <;> simp at h
 | _=>simp only[cmp] at h <;> (repeat' split at h) <;> simp at h
theorem cmp_rng {c:Code} {g:Operand} {ps:List Nat} {x y:XC} (h:cmp P ord nt c=some (.rng g ps x y)):∃ ps' c1 c2,c=.rangeFunc g ps' c1 c2∧ps'.toList=ps∧cmp P ord nt c1=some x∧cmp P ord nt c2=some y:=by
 cases c with
 | rangeFunc g' ps' c1 c2 =>
  simp only[cmp] at h
  split at h
  ·rename_i h1 h2; injection h with h; injection h with e1 e2 e3 e4; subst e1; subst e2; subst e3; subst e4; exact⟨ps',c1,c2,rfl,rfl,h1,h2⟩
  ·cases h
 | region id ops d=>cases d <;> simp only[cmp] at h <;> (repeat' split at h) <;> simp at h
 | _=>simp only[cmp] at h <;> (repeat' split at h) <;> simp at h
theorem cmp_lab {c:Code} (h:cmp P ord nt c=some .lab):∃ l,c=.label l:=by
 cases c with
 | label l=>exact⟨l,rfl⟩
 | region id ops d=>cases d <;> simp only[cmp] at h <;> (repeat' split at h) <;> simp at h
 | _=>simp only[cmp] at h <;> (repeat' split at h) <;> simp at h
theorem cmp_scp {c:Code} {x:XC} (h:cmp P ord nt c=some (.scp x)):∃ c1,c=.scope c1∧cmp P ord nt c1=some x:=by
 cases c with
 | scope c1 =>
  simp only[cmp] at h
  split at h
  ·rename_i h1; injection h with h; injection h with e1; subst e1; exact⟨c1,rfl,h1⟩
  ·cases h
 | region id ops d=>cases d <;> simp only[cmp] at h <;> (repeat' split at h) <;> simp at h
 | _=>simp only[cmp] at h <;> (repeat' split at h) <;> simp at h
theorem cmp_cond {c:Code} {t:Operand} {x y:XC} (h:cmp P ord nt c=some (.cond t x y)):∃ c1 c2,c=.cond t c1 c2∧cmp P ord nt c1=some x∧cmp P ord nt c2=some y:=by
 cases c with
 | cond t' c1 c2 =>
  simp only[cmp] at h
  split at h
  ·rename_i h1 h2; injection h with h; injection h with e0 e1 e2; subst e0; subst e1; subst e2; exact⟨c1,c2,rfl,h1,h2⟩
  ·cases h
 | region id ops d=>cases d <;> simp only[cmp] at h <;> (repeat' split at h) <;> simp at h
 | _=>simp only[cmp] at h <;> (repeat' split at h) <;> simp at h
theorem cmp_blk {c:Code} {id:Nat} {x:XC} (h:cmp P ord nt c=some (.blk id x)):∃ c1,c=.block id c1∧cmp P ord nt c1=some x:=by
 cases c with
 | block j c1 =>
  simp only[cmp] at h
  split at h
  ·rename_i h1; injection h with h; injection h with e0 e1; subst e0; subst e1; exact⟨c1,rfl,h1⟩
  ·cases h
 | region id ops d=>cases d <;> simp only[cmp] at h <;> (repeat' split at h) <;> simp at h
 | _=>simp only[cmp] at h <;> (repeat' split at h) <;> simp at h
theorem cmp_loop {c:Code} {x:XC} (h:cmp P ord nt c=some (.loop x)):∃ c1,c=.loop c1∧cmp P ord nt c1=some x:=by
 cases c with
 | loop c1 =>
  simp only[cmp] at h
  split at h
  ·rename_i h1; injection h with h; injection h with e1; subst e1; exact⟨c1,rfl,h1⟩
  ·cases h
 | region id ops d=>cases d <;> simp only[cmp] at h <;> (repeat' split at h) <;> simp at h
 | _=>simp only[cmp] at h <;> (repeat' split at h) <;> simp at h
theorem cmp_ref {c:Code} {i:Nat} (h:cmp P ord nt c=some (.ref i)):False:=by
 cases c with
 | region id ops d=>cases d <;> simp only[cmp] at h <;> (repeat' split at h) <;> simp at h
 | _=>simp only[cmp] at h <;> (repeat' split at h) <;> simp at h
theorem cmp_ops {c:Code} {l:List XS} (h:cmp P ord nt c=some (.ops l)):(∃ id ops,c=.region id ops false∧cmpL P nt ops (ops.toList.map .op)=some l) ∨
  (∃ id ops is ol,c=.region id ops true∧ord P ops=some (.one is)∧pickL ops is=some ol∧cmpL P nt ops ol=some l):=by
 cases c with
 | region id ops d =>
  cases d with
  | false =>
   simp only[cmp] at h
   split at h
   ·rename_i h1; injection h with h; injection h with e1; subst e1; exact .inl ⟨id,ops,rfl,h1⟩
   ·cases h
  | true =>
   simp only[cmp] at h
   split at h
   ·rename_i is h1
    split at h
    ·rename_i ol h2
     split at h
     ·rename_i h3; injection h with h; injection h with e1; subst e1; exact .inr ⟨id,ops,is,ol,rfl,h1,h2,h3⟩
     ·cases h
    ·cases h
   ·split at h
    ·split at h
     ·injection h with h; cases h
     ·cases h
    ·cases h
   ·cases h
 | _=>simp only[cmp] at h <;> (repeat' split at h) <;> simp at h
theorem cmp_alt {c:Code} {n:Nat} {t:XT} (h:cmp P ord nt c=some (.alt n t)):∃ id ops T rt,c=.region id ops true∧ord P ops=some (.tree T)∧pickT ops T=some rt∧cmpT P nt ops rt=some t:=by
 cases c with
 | region id ops d =>
  cases d with
  | false =>
   simp only[cmp] at h
   split at h
   ·injection h with h; cases h
   ·cases h
  | true =>
   simp only[cmp] at h
   split at h
   ·split at h
    ·split at h
     ·injection h with h; cases h
     ·cases h
    ·cases h
   ·rename_i T h1
    split at h
    ·rename_i rt h2
     split at h
     ·rename_i h3; injection h with h; injection h with e0 e1; subst e1; exact⟨id,ops,T,rt,rfl,h1,h2,h3⟩
     ·cases h
    ·cases h
   ·cases h
 | _=>simp only[cmp] at h <;> (repeat' split at h) <;> simp at h
end
theorem zj1l {P:Program} {b:Frame} {a:Act} {k:List Item} {cs:List Frame} {w:World} {c:Code} :
  step P (lone (b.atR a (.code (.scope c) :: k)) cs w)=.next (lone (b.atR a (.code c :: .inScope c :: k)) cs w) :=
 step_lone_go (by simp[stepG,stepG.exec,Frame.atR])
theorem zj5u {P:Program} {b:Frame} {a:Act} {k:List Item} {cs:List Frame} {w:World} {c:Code} :
  step P (lone (b.atR a (.inScope c :: k)) cs w)=.next (lone (b.atR a k) cs w) :=
 step_lone_go (by simp[stepG,stepG.exec,Frame.atR])
theorem wpIn_scope {F:Fence} {n:Nat} {P:Program} {Q:Post} {a:Act} {w:World} {c:Code} (hg:∀ l a w,¬ Q (.goto l) a w) (h:c.wpIn F n P Q a w):(Code.scope c).wpIn F n P Q a w:=by
 intro b k cs hro hb hr
 have h0:(lone (b.atR a (.code (.scope c) :: k)) cs w).fenced P F:=fenced_calm hb hr rfl
 obtain⟨e,a₁,w₁,hq,harr⟩:=h b (.inScope c :: k) cs hro hb hr
 cases e with
 | normal=>exact⟨.normal,a₁,w₁,hq,.head h0 zj1l (StepsIn.trans harr (.one (fenced_calm hb hr rfl) zj5u))⟩
 | exit id =>
  have hx:exitTo id (.inScope c :: k)=exitTo id k:=by simp[exitTo]
  exact⟨.exit id,a₁,w₁,hq,fun k' hk=>.head h0 zj1l (harr.1 k' (by rw[hx]; exact hk)),
   fun hr' hk=>let ⟨k₁,h1,h2⟩:=harr.2 hr' (by rw[hx]; exact hk); ⟨k₁,h1,.head h0 zj1l h2⟩⟩
 | goto l=>exact (hg _ _ _ hq).elim
 | ret=>exact⟨_,a₁,w₁,hq,.of_steps (.one h0 zj1l) harr⟩
 | panic ch=>exact⟨_,a₁,w₁,hq,.of_steps (.one h0 zj1l) harr⟩
 | outgrown=>exact⟨_,a₁,w₁,hq,.of_steps (.one h0 zj1l) harr⟩
structure OrdOk (r:Option Nat) (P:Program) (ord:Order) (Q:Post):Prop where
 one:∀ (id:Nat) (ops:Array Oper) (is:List (Nat × List Nat)) (ol:List RO) (a:Act) (W:World),ord P ops=some (.one is)→pickL ops is=some ol →
  (∀ W':World,W'.heap=W.heap→W'.os=W.os→W'.tape=W.tape→W'.output=W.output→wpS r P ops Q ol a W')→(Code.region id ops true).wpIn (WF r) 0 P Q a W
 tree:∀ (id:Nat) (ops:Array Oper) (T:RT) (rt:ROT) (a:Act) (W:World),ord P ops=some (.tree T)→pickT ops T=some rt →
  (∀ W':World,W'.heap=W.heap→W'.os=W.os→W'.tape=W.tape→W'.output=W.output→wpR r P ops Q rt a W')→(Code.region id ops true).wpIn (WF r) 0 P Q a W
theorem Rep.tell {E:Env} {s:SS} {a:Act} {W:World} (h:Rep E s a W) {d:Nat} {sv:SV} (hv:Is s.H sv (a.tmps.getD d undef)):Rep E { F:=(d,sv) :: s.F,H:=s.H } a W :=
 ⟨h.size,fun n=>by
  simp only[lk]
  cases hn:d == n with
  | true => have : d = n := by simpa using hn
            subst this; exact hv
  | false=>exact h.frame n,h.defers,h.heap⟩
theorem Rep.tellB {E:Env} {s:SS} {a:Act} {W:World} (h:Rep E s a W) {c:Operand} {sv:SV} {v:Value} (hx:a.eval c=v) (hv:Is s.H sv v):Rep E { F:=Sx.tellB s.F c sv,H:=s.H } a W:=by
 cases c with
 | tmp d => exact h.tell (by have : a.tmps.getD d undef = v := hx
                             rw[this]; exact hv)
 | _=>exact h
section
variable {C:Cx} {E:Env}
theorem wpS_noguard {r:Option Nat} {P:Program} {ops:Array Oper} {op:Oper} {rest:List RO} {Q':Post} {a:Act} {W:World} (hw:Region.wanted op (yielded ops a.tmps)=true)
  (h:wpS r P ops Q' (.op { op with guard:=none } :: rest) a W):wpS r P ops Q' (.op op :: rest) a W:=by
 simp only[wpS,stepS,Region.wanted,if_true] at h
 simp only[wpS,stepS,hw,if_true]
 exact h
end
end Go.Sx
